import Derived.Test.YtbjijbbkfgcleaaDoorW03
import Derived.Test.YtbjijbbkfgcleaaDoorW01
import Derived.Test.YtbjijbbkfgcleaaDoorW00
import Derived.Test.YtbjijbbkfgcleaaDoorRows
import Derived.LaidMore
import Derived.MakeChecks
import Derived.Stop.Joined
import Derived.LaidHandle
/- A part of the proof: walks of the program. -/
set_option autoImplicit false
set_option linter.unusedSimpArgs false
set_option linter.unusedVariables false
set_option linter.unnecessarySimpa false
namespace Go.Proofs.YtbjijbbkfgcleaaDoor
open Go.Gv
open Go.RowKit
open Go.Sn
open Sx
namespace Sx
theorem rd_lookupAct {dm : List Deferred} {P : Program} {n : Nat} {e : Env} {w0 : World} {S : List Nat} {l : List HL} {dst : Option Tmp} {ty : TypeId} {pos : String} {aft : Array Edge} {gd : Option (Nat × Bool)} (j : Nat) {t kt et : TypeId} {x y : Operand} {z : Value} {bb : Nat} {tb : List En} {q : Pl} {en : En} {size bytes : Nat} {f g : Field} {q1 q2 : IntKind} (he : findEn tb q = some en) (hj : l[j]? = some (.obj bb (actO tb))) (hu : P.underlying t = some (.map kt et)) (hk : I2 P kt f g q1 q2) (ht : TyF P et z size bytes) (hx : e.ev x = some (.map (some bb))) (hy : e.ev y = some (kv2 q.1 q.2)) :
    Rd P dm n e w0 S l ⟨dst, .lookup t x y false, ty, pos, aft, gd⟩ (.agg #[.int .i64 en.i, natV en.p.1, natV en.p.2]) := by
  have h := rd_lookupP (dm := dm) (n := n) (w0 := w0) (S := S) (dst := dst) (ty := ty) (pos := pos) (aft := aft) (gd := gd) j stpV (m := mpOf tb 0) (nb := tb.length) hj hu hk ht hx hy
  rw [mpOf_get, he] at h
  exact h
end Sx
open Sx
set_option maxRecDepth 100000 in
set_option maxHeartbeats 1000000 in
theorem Reverse_ok (xs : List Nat) (r : Option Nat) (c : Nat) (hl : xs.length ≤ 1000000) (S : List Nat) (w0 : World) (hown : Own w0 S w0 [.row 3 1 r xs.length c (xs.map natV)]) : Sp Tryd.prog 76 [.slice (rowA r) xs.length c] w0 S (fun v L => v = .tuple #[] ∧ L = [.row 3 1 r xs.length c (xs.reverse.map natV)]) := by
  obtain ⟨g, hrg⟩ : ∃ g, xs.length ≠ 0 → r = some g := by
    cases r with
    | none => exact ⟨0, fun h => absurd (hown.holds _ (List.mem_singleton.2 rfl)).2.1 h⟩
    | some g => exact ⟨g, fun _ => rfl⟩
  refine spec_enter Tryd.func76 rfl Tryd.ntmps76 rfl hown ?_
  simp only [argEnv]
  refine gc_seq <| gc_region <| gl_op <| op_rd rfl (rd_move rfl) <| gl_op <| op_rd rfl (rd_lenSlice Tryd.underlying29 rfl) <| gl_op (op_rd rfl (by exact rd_sub rfl rfl (by omega) (by omega)) ?_)
  refine gl_op <| op_rd rfl (rd_assign rfl) <| gl_op <| op_rd rfl (rd_assign rfl) <| gl_nil <| gx_then <| gc_block ?_
  rw [show (xs.length : Int) - 1 = (xs.length : Int) - 1 - ((0 : Nat) : Int) by omega]
  refine gc_loopF (ι := Nat × List Nat) [(0, _)] [] (fun q => 2 * q.1 ≤ xs.length + 1 ∧ Turned xs q.2 q.1) (fun q Fr0 => ((2, natV q.1) :: (3, .int .i64 ((xs.length : Int) - 1 - q.1)) :: Fr0)) (fun q Fr0 => (.row 3 1 r xs.length c (q.2.map natV) :: Fr0)) (fun q => xs.length + 1 - q.1) (0, xs) (⟨by simp only; omega, Turned.init xs⟩) ⟨rfl, rfl, rfl, trivial⟩ ⟨[0], by decide, rfl⟩ ?_
  rintro ⟨i, ys⟩ ⟨hi, ht⟩
  simp only at hi ht ⊢
  have hyl := ht.len
  refine gc_seq <| gc_seq <| gc_region <| gl_op <| op_rd rfl (rd_move rfl) <| gl_op <| op_rd rfl (rd_move rfl) <| gl_op (op_rd rfl (rd_lss rfl rfl) (gk_dec (fun h9 => ?_) (fun h9 => ?_)))
  · have hr9 := hrg (by omega)
    subst hr9
    obtain ⟨u, hu⟩ := get_some (show xs.length - 1 - i < ys.length by omega)
    obtain ⟨v, hv⟩ := get_some (show i < ys.length by omega)
    have hj9 : (xs.length : Int) - 1 - i = ((xs.length - 1 - i : Nat) : Int) := by omega
    rw [hj9]
    refine gl_nil <| gx_then <| gc_cond_t rfl <| gc_skip <| gx_then <| gc_seq <| gc_block <| gc_drawP [] false 15 rfl <| ga_first 0 (bm 16 1) rfl rfl rfl rfl (by kernel_rfl) (by kernel_rfl) ⟨[], by decide, rfl⟩ (qt_rd (rd_move rfl)) ?_
    refine ga_first 1 (bm 16 3) rfl rfl rfl rfl (by kernel_rfl) (by kernel_rfl) ⟨[], by decide, rfl⟩ (qt_rd (rd_move rfl)) ?_
    refine ga_first 2 (bm 16 7) rfl rfl rfl rfl (by kernel_rfl) (by kernel_rfl) ⟨[], by decide, rfl⟩ (qt_rd (rd_move rfl)) ?_
    refine ga_first 3 (bm 16 15) rfl rfl rfl rfl (by kernel_rfl) (by kernel_rfl) ⟨[], by decide, rfl⟩ (qt_rd (rd_move rfl)) ?_
    refine ga_first 4 (bm 16 31) rfl rfl rfl rfl (by kernel_rfl) (by kernel_rfl) ⟨[], by decide, rfl⟩ (qt_rd (rd_move rfl)) ?_
    refine ga_first 5 (bm 16 63) rfl rfl rfl rfl (by kernel_rfl) (by kernel_rfl) ⟨[], by decide, rfl⟩ (qt_rd (rd_move rfl)) ?_
    refine ga_first 6 (bm 16 127) rfl rfl rfl rfl (by kernel_rfl) (by kernel_rfl) ⟨[], by decide, rfl⟩ (qt_rd (rd_indexS1 Tryd.underlying29 ty_3 rfl rfl (by omega))) ?_
    refine ga_first 8 (bm 16 383) rfl rfl rfl rfl (by kernel_rfl) (by kernel_rfl) ⟨[], by decide, rfl⟩ (qt_rd (rd_move rfl)) ?_
    refine ga_first 9 (bm 16 895) rfl rfl rfl rfl (by kernel_rfl) (by kernel_rfl) ⟨[], by decide, rfl⟩ (qt_rd (rd_move rfl)) ?_
    refine ga_first 10 (bm 16 1919) rfl rfl rfl rfl (by kernel_rfl) (by kernel_rfl) ⟨[], by decide, rfl⟩ (qt_rd (rd_indexS1 Tryd.underlying29 ty_3 rfl rfl (by omega))) ?_
    refine ga_two 7 11 (bm 16 2047) (bm 16 3967) rfl rfl rfl rfl (by kernel_rfl) (by kernel_rfl) (by kernel_rfl) (.inr ⟨[], by decide, rfl⟩) ?_ ?_
    · refine (op_rd rfl (rd_load Tryd.underlying3 rfl rfl (ld_rowN 0 rfl (by rw [List.getElem?_map, hu]; rfl))) ?_)
      refine ga_only 11 (bm 16 4095) rfl rfl (by kernel_rfl) (by kernel_rfl) (.inr ⟨[], by decide, rfl⟩) (op_rd rfl (rd_load Tryd.underlying3 rfl rfl (ld_rowN 0 rfl (by rw [List.getElem?_map, hv]; rfl))) ?_)
      refine ga_first 12 (bm 16 8191) rfl rfl rfl rfl (by kernel_rfl) (by kernel_rfl) ⟨[], by decide, rfl⟩ (qt_rd (rd_indexS1 Tryd.underlying29 ty_3 rfl rfl (by omega))) ?_
      refine ga_only 13 (bm 16 16383) rfl rfl (by kernel_rfl) (by kernel_rfl) (.inr ⟨[], by decide, rfl⟩) (op_storeRowE 0 ty_3 rfl rfl rfl rfl (by rw [List.length_map]; omega) (by rw [← List.map_set]) (by rfl) ?_)
      refine ga_first 14 (bm 16 32767) rfl rfl rfl rfl (by kernel_rfl) (by kernel_rfl) ⟨[], by decide, rfl⟩ (qt_rd (rd_indexS1 Tryd.underlying29 ty_3 rfl rfl (by omega))) ?_
      refine ga_only 15 (bm 16 65535) rfl rfl (by kernel_rfl) (by kernel_rfl) (.inr ⟨[], by decide, rfl⟩) (op_storeRowE 0 ty_3 rfl rfl rfl rfl (by rw [List.length_map, List.length_set]; omega) (by rw [← List.map_set]) (by rfl) ?_)
      refine ga_end (by kernel_rfl) (.inl (by kernel_rfl)) ?_
      refine gx_block <| gx_then <| gc_region <| gl_op <| op_rd rfl (rd_move rfl) <| gl_op (op_rd rfl (by exact rd_addN (b := 1) rfl rfl (by omega)) ?_)
      refine gl_op <| op_rd rfl (rd_move rfl) <| gl_op (op_rd rfl (by exact rd_subN (b := 1) rfl rfl (by omega) (by omega)) ?_)
      refine gl_op <| op_rd rfl (rd_assign rfl) <| gl_op <| op_rd rfl (rd_assign rfl) <| gl_nil <| gx_then ?_
      exact gx_cut ((i + 1, (ys.set i u).set (xs.length - 1 - i) v)) ⟨⟨by simp only; omega, ht.step (by omega) hu hv⟩, by simp only; omega⟩ ⟨rfl, congrArg (fun z : Int => some (Value.int .i64 z)) (by simp only; omega), rfl, trivial⟩ ⟨[0], by decide, rfl⟩
    refine (op_rd rfl (rd_load Tryd.underlying3 rfl rfl (ld_rowN 0 rfl (by rw [List.getElem?_map, hv]; rfl))) ?_)
    refine ga_only 7 (bm 16 4095) rfl rfl (by kernel_rfl) (by kernel_rfl) (.inr ⟨[], by decide, rfl⟩) (op_rd rfl (rd_load Tryd.underlying3 rfl rfl (ld_rowN 0 rfl (by rw [List.getElem?_map, hu]; rfl))) ?_)
    refine ga_first 12 (bm 16 8191) rfl rfl rfl rfl (by kernel_rfl) (by kernel_rfl) ⟨[], by decide, rfl⟩ (qt_rd (rd_indexS1 Tryd.underlying29 ty_3 rfl rfl (by omega))) ?_
    refine ga_only 13 (bm 16 16383) rfl rfl (by kernel_rfl) (by kernel_rfl) (.inr ⟨[], by decide, rfl⟩) (op_storeRowE 0 ty_3 rfl rfl rfl rfl (by rw [List.length_map]; omega) (by rw [← List.map_set]) (by rfl) ?_)
    refine ga_first 14 (bm 16 32767) rfl rfl rfl rfl (by kernel_rfl) (by kernel_rfl) ⟨[], by decide, rfl⟩ (qt_rd (rd_indexS1 Tryd.underlying29 ty_3 rfl rfl (by omega))) ?_
    refine ga_only 15 (bm 16 65535) rfl rfl (by kernel_rfl) (by kernel_rfl) (.inr ⟨[], by decide, rfl⟩) (op_storeRowE 0 ty_3 rfl rfl rfl rfl (by rw [List.length_map, List.length_set]; omega) (by rw [← List.map_set]) (by rfl) ?_)
    refine ga_end (by kernel_rfl) (.inl (by kernel_rfl)) ?_
    refine gx_block <| gx_then <| gc_region <| gl_op <| op_rd rfl (rd_move rfl) <| gl_op (op_rd rfl (by exact rd_addN (b := 1) rfl rfl (by omega)) ?_)
    refine gl_op <| op_rd rfl (rd_move rfl) <| gl_op (op_rd rfl (by exact rd_subN (b := 1) rfl rfl (by omega) (by omega)) ?_)
    refine gl_op <| op_rd rfl (rd_assign rfl) <| gl_op <| op_rd rfl (rd_assign rfl) <| gl_nil <| gx_then ?_
    exact gx_cut ((i + 1, (ys.set i u).set (xs.length - 1 - i) v)) ⟨⟨by simp only; omega, ht.step (by omega) hu hv⟩, by simp only; omega⟩ ⟨rfl, congrArg (fun z : Int => some (Value.int .i64 z)) (by simp only; omega), rfl, trivial⟩ ⟨[0], by decide, rfl⟩
  refine gl_nil <| gx_then <| gc_cond_f rfl <| gc_exit <| gx_then_exit <| gx_then_exit <| gx_block_exit <| gx_ret0 (.inr rfl) Tryd.results76 [0] (by decide) ?_
  exact ⟨rfl, by rw [ht.done (by omega)]; rfl⟩
set_option maxRecDepth 100000 in
set_option maxHeartbeats 1000000 in
theorem chain_ok (nd b30 k27 c27 m28 : Nat) (tb : List En) (hlk : Lk tb) (q0 : Pl) (v0 : Pl × List Nat) (hv0 : tabOf tb q0 = some v0) (hc : v0.2.length ≤ 1000) (S : List Nat) (w0 : World) (hown : Own w0 S w0 [.blk b30 [.slice (rowA (some k27)) nd c27, .map (some m28)] 87, .obj m28 (actO tb)]) : Sp Tryd.prog 42 [.pointer (some ⟨b30, 0, none⟩), .agg #[natV q0.1, natV q0.2]] w0 S (fun v L => ∃ r c, v = .tuple #[.agg #[natV v0.1.1, natV v0.1.2], .slice (rowA r) v0.2.length c] ∧ L = [.blk b30 [.slice (rowA (some k27)) nd c27, .map (some m28)] 87, .obj m28 (actO tb), .row 3 1 r v0.2.length c (v0.2.map natV)]) := by
  refine spec_enter Tryd.func42 rfl Tryd.ntmps42 rfl hown ?_
  simp only [argEnv]
  refine gc_seq <| gc_region <| gl_op (op_box rfl rfl rfl (fun b3 => ?_))
  refine gl_op (op_alloc ty_110 rfl rfl (fun b4 => ?_))
  refine gl_op <| op_rd rfl (rd_assign rfl) <| gl_nil <| gx_then <| gc_seq <| gc_region <| gl_op <| op_rd rfl (rd_assign rfl) <| gl_nil <| gx_then <| gc_seq <| gc_block <| gk_nil 3 1 <| gc_loopF (ι := Pl × List Nat × Option Nat × Nat) [(0, _), (3, _), (4, _)] [_, _, _] (fun q => Back tb q0 q.1 q.2.1) (fun q Fr0 => ((6, .slice (rowA q.2.2.1) q.2.1.length q.2.2.2) :: Fr0)) (fun q Fr0 => (.blk b3 [natV q.1.1, natV q.1.2] 110 :: .row 3 1 q.2.2.1 q.2.1.length q.2.2.2 (q.2.1.map natV) :: Fr0)) (fun q => v0.2.length - q.2.1.length) (q0, [], none, 0) (Back.init hv0) ⟨rfl, rfl, rfl, rfl, trivial⟩ ⟨[2, 0, 1, 3, 4], by decide, rfl⟩ ?_
  rintro ⟨p, cs, r6, c6⟩ hb
  simp only at hb ⊢
  obtain ⟨en, hen⟩ := hb.find
  have hcl := hb.len hv0
  refine gc_seq <| gc_seq <| gc_drawP [0, 1, 2, 3, 4] true 7 rfl <| ga_first 0 (bm 8 1) rfl rfl rfl rfl (by kernel_rfl) (by kernel_rfl) ⟨[0, 1, 2, 3, 4], by decide, rfl⟩ (qt_rd (rd_move rfl)) ?_
  refine ga_first 1 (bm 8 3) rfl rfl rfl rfl (by kernel_rfl) (by kernel_rfl) ⟨[0, 1, 2, 3, 4], by decide, rfl⟩ (qt_rd (rd_nilCheck rfl)) ?_
  refine ga_first 2 (bm 8 7) rfl rfl rfl rfl (by kernel_rfl) (by kernel_rfl) ⟨[0, 1, 2, 3, 4], by decide, rfl⟩ (qt_rd (rd_fieldAddr rfl (fa_87_1 _))) ?_
  refine ga_first 3 (bm 8 15) rfl rfl rfl rfl (by kernel_rfl) (by kernel_rfl) ⟨[0, 1, 2, 3, 4], by decide, rfl⟩ (qt_rd (rd_load Tryd.underlying85 rfl rfl (by exact ld_blk 3 rfl rfl))) ?_
  refine ga_first 4 (bm 8 31) rfl rfl rfl rfl (by kernel_rfl) (by kernel_rfl) ⟨[0, 1, 2, 3, 4], by decide, rfl⟩ (qt_rd (rd_loadAgg Tryd.underlying110 rfl ty_110 rfl (by exact cs_blk 0 (off := 0) (k := 2) rfl rfl) rfl)) ?_
  refine ga_first 5 (bm 8 63) rfl rfl rfl rfl (by kernel_rfl) (by kernel_rfl) ⟨[0, 1, 2, 3, 4], by decide, rfl⟩ (qt_rd (rd_lookupAct 4 hen rfl Tryd.underlying85 i2_place ty_122 rfl rfl)) ?_
  refine ga_first 6 (bm 8 127) rfl rfl rfl rfl (by kernel_rfl) (by kernel_rfl) ⟨[0, 1, 2, 3, 4], by decide, rfl⟩ (qt_rd (rd_field rfl (fd_122_0 _ _ _))) ?_
  refine ga_first 7 (bm 8 255) rfl rfl rfl rfl (by kernel_rfl) (by kernel_rfl) ⟨[0, 1, 2, 3, 4], by decide, rfl⟩ (qt_rd (rd_geq rfl rfl)) (gk_dec (fun h14 => ?_) (fun h14 => ?_))
  · have hin : en.i = ((en.i.toNat : Nat) : Int) := by omega
    refine ga_end (by kernel_rfl) (.inr ⟨[0, 1, 2, 3, 4], by decide, rfl⟩) ?_
    refine gx_then <| gc_cond_t rfl <| gc_skip <| gx_then <| gc_block <| gc_seq <| gc_drawP [0, 2, 3, 4] false 10 rfl <| ga_first 0 (bm 11 1) rfl rfl rfl rfl (by kernel_rfl) (by kernel_rfl) ⟨[0, 2, 3, 4], by decide, rfl⟩ (qt_rd (rd_move rfl)) ?_
    refine ga_first 1 (bm 11 3) rfl rfl rfl rfl (by kernel_rfl) (by kernel_rfl) ⟨[0, 2, 3, 4], by decide, rfl⟩ (qt_rd (rd_move rfl)) ?_
    refine ga_first 2 (bm 11 7) rfl rfl rfl rfl (by kernel_rfl) (by kernel_rfl) ⟨[0, 2, 3, 4], by decide, rfl⟩ (qt_rd (rd_nilCheck rfl)) ?_
    refine ga_first 3 (bm 11 15) rfl rfl rfl rfl (by kernel_rfl) (by kernel_rfl) ⟨[0, 2, 3, 4], by decide, rfl⟩ (qt_rd (rd_fieldAddr rfl (fa_87_1 _))) ?_
    refine ga_first 4 (bm 11 31) rfl rfl rfl rfl (by kernel_rfl) (by kernel_rfl) ⟨[0, 2, 3, 4], by decide, rfl⟩ (qt_rd (rd_load Tryd.underlying85 rfl rfl (by exact ld_blk 2 rfl rfl))) ?_
    refine ga_first 5 (bm 11 63) rfl rfl rfl rfl (by kernel_rfl) (by kernel_rfl) ⟨[0, 2, 3, 4], by decide, rfl⟩ (qt_rd (rd_loadAgg Tryd.underlying110 rfl ty_110 rfl (by exact cs_blk 0 (off := 0) (k := 2) rfl rfl) rfl)) ?_
    refine ga_first 6 (bm 11 127) rfl rfl rfl rfl (by kernel_rfl) (by kernel_rfl) ⟨[0, 2, 3, 4], by decide, rfl⟩ (qt_rd (rd_lookupAct 3 hen rfl Tryd.underlying85 i2_place ty_122 rfl rfl)) ?_
    refine ga_first 7 (bm 11 255) rfl rfl rfl rfl (by kernel_rfl) (by kernel_rfl) ⟨[0, 2, 3, 4], by decide, rfl⟩ (qt_rd (rd_field rfl (fd_122_0 _ _ _))) ?_
    refine ga_only 8 (bm 11 511) rfl rfl (by kernel_rfl) (by kernel_rfl) (.inr ⟨[0, 2, 3, 4], by decide, rfl⟩) (op_buildSlice (sz := 1) rfl rfl (fun _ => bs_29_1_0 _) rfl rfl (fun b23 => ?_))
    refine ga_only 9 (bm 11 1023) rfl rfl (by kernel_rfl) (by kernel_rfl) (.inr ⟨[1, 3, 4, 5], by decide, rfl⟩) (op_appendRow 2 0 Tryd.underlying29 ty_3 rfl (by decide) rfl rfl rfl rfl rfl (by simp [Value.oneCell']) (by omega) (by omega) (fun _ => (by rfl)) (fun r24 c24 => ?_))
    refine ga_only 10 (bm 11 2047) rfl rfl (by kernel_rfl) (by kernel_rfl) (.inr ⟨[1, 3, 4, 5], by decide, rfl⟩) (op_rd rfl (rd_assign rfl) ?_)
    refine ga_end (by kernel_rfl) (.inl (by kernel_rfl)) ?_
    refine gx_then ?_
    rw [show cs.map natV ++ [.int .i64 en.i] = (cs ++ [en.i.toNat]).map natV by rw [List.map_append]; show _ = _ ++ [natV en.i.toNat]; rw [show natV en.i.toNat = .int .i64 en.i from congrArg (Value.int .i64) hin.symm], show cs.length + 1 = (cs ++ [en.i.toNat]).length by simp]
    refine gc_drawP [0, 2, 3, 4, 5] false 7 rfl <| ga_first 0 (bm 8 1) rfl rfl rfl rfl (by kernel_rfl) (by kernel_rfl) ⟨[0, 2, 3, 4, 5], by decide, rfl⟩ (qt_rd (rd_move rfl)) ?_
    refine ga_first 1 (bm 8 3) rfl rfl rfl rfl (by kernel_rfl) (by kernel_rfl) ⟨[0, 2, 3, 4, 5], by decide, rfl⟩ (qt_rd (rd_nilCheck rfl)) ?_
    refine ga_first 2 (bm 8 7) rfl rfl rfl rfl (by kernel_rfl) (by kernel_rfl) ⟨[0, 2, 3, 4, 5], by decide, rfl⟩ (qt_rd (rd_fieldAddr rfl (fa_87_1 _))) ?_
    refine ga_first 3 (bm 8 15) rfl rfl rfl rfl (by kernel_rfl) (by kernel_rfl) ⟨[0, 2, 3, 4, 5], by decide, rfl⟩ (qt_rd (rd_load Tryd.underlying85 rfl rfl (by exact ld_blk 3 rfl rfl))) ?_
    refine ga_only 4 (bm 8 31) rfl rfl (by kernel_rfl) (by kernel_rfl) (.inr ⟨[0, 2, 3, 4, 5], by decide, rfl⟩) (op_rd rfl (rd_loadAgg Tryd.underlying110 rfl ty_110 rfl (by exact cs_blk 1 (off := 0) (k := 2) rfl rfl) rfl) ?_)
    refine ga_first 5 (bm 8 63) rfl rfl rfl rfl (by kernel_rfl) (by kernel_rfl) ⟨[0, 2, 3, 4, 5], by decide, rfl⟩ (qt_rd (rd_lookupAct 4 hen rfl Tryd.underlying85 i2_place ty_122 rfl rfl)) ?_
    refine ga_first 6 (bm 8 127) rfl rfl rfl rfl (by kernel_rfl) (by kernel_rfl) ⟨[0, 2, 3, 4, 5], by decide, rfl⟩ (qt_rd (rd_field rfl (fd_122_1 _ _ _))) ?_
    refine ga_only 7 (bm 8 255) rfl rfl (by kernel_rfl) (by kernel_rfl) (.inr ⟨[0, 2, 3, 4, 5], by decide, rfl⟩) (op_storeAgg 1 ty_110 rfl rfl rfl rfl rfl rfl (by rfl) ?_)
    refine ga_end (by kernel_rfl) (.inl (by kernel_rfl)) ?_
    refine gx_block <| gx_then ?_
    exact gx_cut ((en.p, cs ++ [en.i.toNat], r24, c24)) ⟨hb.step hlk hen (by omega), by have h9 := (hb.step hlk hen (by omega)).len hv0; simp only [List.length_append, List.length_cons, List.length_nil] at h9 ⊢; omega⟩ ⟨rfl, rfl, rfl, rfl, trivial⟩ ⟨[1, 2, 3, 4, 5], by decide, rfl⟩
  refine ga_end (by kernel_rfl) (.inr ⟨[0, 1, 2, 3, 4], by decide, rfl⟩) ?_
  refine gx_then <| gc_cond_f rfl <| gc_exit <| gx_then_exit <| gx_then_exit <| gx_block_exit <| gx_then <| gc_seq <| gc_region <| gl_op <| op_rd rfl (rd_move rfl) <| gl_op (op_callM [1] [0, 2, 3, 4] rfl (vf := []) (vc := []) rfl rfl Tryd.call76 (by decide) rfl (fun w how hc => Reverse_ok cs r6 c6 (by omega) _ w hc) ?_)
  rintro _ _ ⟨rfl, rfl⟩
  refine gl_nil <| gx_then <| gc_seq <| gc_region <| gl_op (op_rd rfl (rd_loadAgg Tryd.underlying110 rfl ty_110 rfl (by exact cs_blk 1 (off := 0) (k := 2) rfl rfl) rfl) ?_)
  refine gl_op <| op_rd rfl (rd_move rfl) <| gl_op (op_storeAgg 2 ty_110 rfl rfl rfl rfl rfl rfl (by rfl) ?_)
  refine gl_op <| op_rd rfl (rd_assign rfl) <| gl_nil <| gx_then <| gc_ret <| gx_retV2 (.inl rfl) Tryd.results42 (rv_agg Tryd.underlying110 rfl ty_110 rfl (by rfl) (cs_blk 2 (off := 0) (k := 2) rfl rfl)) (rv_tmp rfl) [3, 4, 0] (by decide) ?_
  have hd := hb.done hlk hen (by omega)
  rw [hv0] at hd
  simp only [Option.some.injEq] at hd
  subst hd
  exact ⟨r6, c6, by simp only [List.length_reverse]; rfl, by simp only [List.length_reverse]; rfl⟩
end Go.Proofs.YtbjijbbkfgcleaaDoor
namespace Go.Proofs.YtbjijbbkfgcleaaDoor
open Go.Gv
open Go.RowKit
open Go.Sn
open Sx
namespace Sx
theorem i2_pipe : I2 Tryd.prog 42 (Tryd.prog.fieldsOf 42)[0]! (Tryd.prog.fieldsOf 42)[1]! .i64 .i64 := ⟨by kernel_rfl, by kernel_rfl, by kernel_rfl, by kernel_rfl, by kernel_rfl, by kernel_rfl, by kernel_rfl, by kernel_rfl⟩
theorem sameIntsN_ok (xs ys : List Nat) (a b : Option Addr) (ca cb : Nat) (hxl : xs.length ≤ 140737488355328) (w0 : World) (hx : OldSl w0 [] a xs.length 1 (xs.map natV)) (hy : OldSl w0 [] b ys.length 1 (ys.map natV)) : Sp Tryd.prog 16 [.slice a xs.length ca, .slice b ys.length cb] w0 [] (RV (.bool (decide (xs = ys)))) := by
  have h := SameInts_ok (xs.map fun n : Nat => (n : Int)) (ys.map fun n : Nat => (n : Int)) a b ca cb (by rw [List.length_map]; exact hxl) w0 (by rw [List.length_map, natI]; exact hx) (by rw [List.length_map, natI]; exact hy)
  rw [List.length_map, List.length_map, show decide ((xs.map fun n : Nat => (n : Int)) = (ys.map fun n : Nat => (n : Int))) = decide (xs = ys) from decide_eq_decide.2 castL_inj] at h
  exact h
end Sx
open Sx
set_option maxRecDepth 100000 in
set_option maxHeartbeats 1000000 in
theorem SamePipes_ok (xs ys : List Pl) (a b : Option Addr) (ca cb : Nat) (hxl : xs.length ≤ 1000000) (w0 : World) (hx : OldSl w0 [] a xs.length 2 (xs.flatMap plC)) (hy : OldSl w0 [] b ys.length 2 (ys.flatMap plC)) : Sp Tryd.prog 29 [.slice a xs.length ca, .slice b ys.length cb] w0 [] (RV (.bool (decide (xs = ys)))) := by
  refine spec_enter Tryd.func29 rfl Tryd.ntmps29 rfl (Own.refl _) ?_
  simp only [argEnv]
  refine gc_seq <| gc_region <| gl_op <| op_rd rfl (rd_assign rfl) <| gl_nil <| gx_then <| gc_seq <| gc_seq <| gc_region <| gl_op <| op_rd rfl (rd_move rfl) <| gl_op <| op_rd rfl (rd_lenSlice Tryd.underlying49 rfl) <| gl_op <| op_rd rfl (rd_move rfl) <| gl_op <| op_rd rfl (rd_lenSlice Tryd.underlying49 rfl) <| gl_op (op_rd rfl (rd_neq rfl rfl) (gk_dec (fun h10 => ?_) (fun h10 => ?_)))
  · refine gl_nil <| gx_then <| gc_cond_t rfl <| gc_seq <| gc_region <| gl_op <| op_rd rfl (rd_assign rfl) <| gl_nil <| gx_then <| gc_ret <| gx_then_ret <| gx_ret1 (.inl rfl) Tryd.results29 rfl [] (by decide) ?_
    refine ⟨congrArg Value.bool (Eq.symm ?_), rfl⟩
    exact decide_eq_false (fun e => by subst e; omega)
  refine gl_nil <| gx_then <| gc_cond_f rfl <| gc_skip <| gx_then <| gc_seq <| gc_seq <| gc_region <| gl_op <| op_rd rfl (rd_assign rfl) <| gl_nil <| gx_then <| gc_block <| gc_loopF (ι := Nat) [(0, _), (1, _)] [] (fun k => k ≤ xs.length ∧ xs.take k = ys.take k) (fun k Fr0 => ((5, natV k) :: Fr0)) (fun k Fr0 => Fr0) (fun k => xs.length - k) 0 (⟨Nat.zero_le _, rfl⟩) ⟨rfl, rfl, rfl, trivial⟩ ⟨[], by decide, rfl⟩ ?_
  rintro k ⟨hk, htk⟩
  refine gc_seq <| gc_seq <| gc_region <| gl_op <| op_rd rfl (rd_move rfl) <| gl_op <| op_rd rfl (rd_move rfl) <| gl_op <| op_rd rfl (rd_lenSlice Tryd.underlying49 rfl) <| gl_op (op_rd rfl (rd_lss rfl rfl) (gk_dec (fun h14 => ?_) (fun h14 => ?_)))
  · obtain ⟨u, hu⟩ := get_some (show k < xs.length by omega)
    obtain ⟨v, hv⟩ := get_some (show k < ys.length by omega)
    refine gl_nil <| gx_then <| gc_cond_t rfl <| gc_skip <| gx_then <| gc_seq <| gc_block <| gc_seq <| gc_drawP [] true 8 rfl <| ga_first 0 (bm 9 1) rfl rfl rfl rfl (by kernel_rfl) (by kernel_rfl) ⟨[], by decide, rfl⟩ (qt_rd (rd_move rfl)) ?_
    refine ga_first 1 (bm 9 3) rfl rfl rfl rfl (by kernel_rfl) (by kernel_rfl) ⟨[], by decide, rfl⟩ (qt_rd (rd_move rfl)) ?_
    refine ga_first 2 (bm 9 7) rfl rfl rfl rfl (by kernel_rfl) (by kernel_rfl) ⟨[], by decide, rfl⟩ (qt_rd (rd_indexOld hx Tryd.underlying49 ty_42 rfl rfl (by omega) (by omega))) ?_
    refine ga_first 3 (bm 9 15) rfl rfl rfl rfl (by kernel_rfl) (by kernel_rfl) ⟨[], by decide, rfl⟩ (qt_rd (rd_loadAgg Tryd.underlying42 rfl ty_42 rfl (cs_slN hx (flat_drop_get plC 2 (fun _ => rfl) hu)) rfl)) ?_
    refine ga_first 4 (bm 9 31) rfl rfl rfl rfl (by kernel_rfl) (by kernel_rfl) ⟨[], by decide, rfl⟩ (qt_rd (rd_move rfl)) ?_
    refine ga_first 5 (bm 9 63) rfl rfl rfl rfl (by kernel_rfl) (by kernel_rfl) ⟨[], by decide, rfl⟩ (qt_rd (rd_move rfl)) ?_
    refine ga_first 6 (bm 9 127) rfl rfl rfl rfl (by kernel_rfl) (by kernel_rfl) ⟨[], by decide, rfl⟩ (qt_rd (rd_indexOld hy Tryd.underlying49 ty_42 rfl rfl (by omega) (by omega))) ?_
    refine ga_first 7 (bm 9 255) rfl rfl rfl rfl (by kernel_rfl) (by kernel_rfl) ⟨[], by decide, rfl⟩ (qt_rd (rd_loadAgg Tryd.underlying42 rfl ty_42 rfl (cs_slN hy (flat_drop_get plC 2 (fun _ => rfl) hv)) rfl)) ?_
    refine ga_first 8 (bm 9 511) rfl rfl rfl rfl (by kernel_rfl) (by kernel_rfl) ⟨[], by decide, rfl⟩ (qt_rd (rd_neqI2 (a := (u.1 : Int)) (b := (u.2 : Int)) (c := (v.1 : Int)) (d := (v.2 : Int)) i2_pipe (by kernel_rfl) rfl rfl)) ?_
    refine gk_bool (fun h25 => ?_) (fun h25 => ?_)
    · have huv : ¬ ((u.1 : Int) = v.1 ∧ (u.2 : Int) = v.2) := fun e => by rw [decide_eq_true e] at h25; cases h25
      refine ga_end (by kernel_rfl) (.inr ⟨[], by decide, rfl⟩) ?_
      refine gx_then <| gc_cond_t rfl <| gc_seq <| gc_region <| gl_op <| op_rd rfl (rd_assign rfl) <| gl_nil <| gx_then <| gc_ret <| gx_block_ret <| gx_then_ret <| gx_then_ret <| gx_block_ret <| gx_then_ret <| gx_ret1 (.inl rfl) Tryd.results29 rfl [] (by decide) ?_
      refine ⟨congrArg Value.bool (Eq.symm ?_), rfl⟩
      exact decide_eq_false (fun e => by subst e; rw [hu] at hv; cases hv; exact huv ⟨rfl, rfl⟩)
    have huv : (u.1 : Int) = v.1 ∧ (u.2 : Int) = v.2 := by simpa using h25
    refine ga_end (by kernel_rfl) (.inr ⟨[], by decide, rfl⟩) ?_
    refine gx_then <| gc_cond_f rfl <| gc_skip <| gx_block <| gx_then <| gc_region <| gl_op <| op_rd rfl (rd_move rfl) <| gl_op (op_rd rfl (by exact rd_addN (b := 1) rfl rfl (by omega)) ?_)
    refine gl_op <| op_rd rfl (rd_assign rfl) <| gl_nil <| gx_then ?_
    exact gx_cut (k + 1) ⟨⟨by omega, by rw [take_at hu, take_at hv, htk, show u = v from Prod.ext (by have := huv.1; omega) (by have := huv.2; omega)]⟩, by omega⟩ ⟨rfl, rfl, rfl, trivial⟩ ⟨[], by decide, rfl⟩
  refine gl_nil <| gx_then <| gc_cond_f rfl <| gc_exit <| gx_then_exit <| gx_then_exit <| gx_block_exit <| gx_then <| gc_seq <| gc_region <| gl_op <| op_rd rfl (rd_assign rfl) <| gl_nil <| gx_then <| gc_ret <| gx_ret1 (.inl rfl) Tryd.results29 rfl [] (by decide) ?_
  refine ⟨congrArg Value.bool (Eq.symm ?_), rfl⟩
  rw [List.take_of_length_le (by omega), List.take_of_length_le (by omega)] at htk
  exact decide_eq_true htk
set_option maxRecDepth 100000 in
set_option maxHeartbeats 1000000 in
theorem SameReason_ok (u v : Rsn) (a b : Option Addr) (ca cb : Nat) (hl : u.ch.length ≤ 140737488355328) (w0 : World) (hx : OldSl w0 [] a u.ch.length 1 (u.ch.map natV)) (hy : OldSl w0 [] b v.ch.length 1 (v.ch.map natV)) : Sp Tryd.prog 19 [u.val a ca, v.val b cb] w0 [] (RV (.bool (decide (u = v)))) := by
  refine spec_enter Tryd.func19 rfl Tryd.ntmps19 rfl (Own.refl _) ?_
  simp only [argEnv]
  refine gc_seq <| gc_region <| gl_op (op_box rfl rfl rfl (fun b2 => ?_))
  refine gl_op (op_box rfl rfl rfl (fun b3 => ?_))
  refine gl_op <| op_rd rfl (rd_assign rfl) <| gl_nil <| gx_then <| gc_seq <| gc_region <| gl_op <| op_rd rfl (rd_fieldAddr rfl (fa_44_0 _)) <| gl_op (op_rd rfl (rd_load Tryd.underlying3 rfl rfl (by exact ld_blk 1 rfl rfl)) ?_)
  refine gl_op <| op_rd rfl (rd_fieldAddr rfl (fa_44_0 _)) <| gl_op (op_rd rfl (rd_load Tryd.underlying3 rfl rfl (by exact ld_blk 0 rfl rfl)) ?_)
  refine gl_op (op_rd rfl (rd_eql rfl rfl) (gk_dec (fun h9 => ?_) (fun h9 => ?_)))
  · refine gl_op <| op_rd rfl (rd_move rfl) <| gl_yes rfl rfl <| op_rd rfl (rd_fieldAddr rfl (fa_44_1 _)) <| gl_yes rfl rfl (op_rd rfl (rd_load Tryd.underlying3 rfl rfl (by exact ld_blk 1 rfl rfl)) ?_)
    refine gl_yes rfl rfl <| op_rd rfl (rd_fieldAddr rfl (fa_44_1 _)) <| gl_yes rfl rfl (op_rd rfl (rd_load Tryd.underlying3 rfl rfl (by exact ld_blk 0 rfl rfl)) ?_)
    refine gl_yes rfl rfl (op_rd rfl (rd_eql rfl rfl) (gk_dec (fun h15 => ?_) (fun h15 => ?_)))
    · refine gl_op <| op_rd rfl (rd_pick_t rfl rfl) <| gl_op <| op_rd rfl (rd_move rfl) <| gl_yes rfl rfl <| op_rd rfl (rd_fieldAddr rfl (fa_44_3 _)) <| gl_yes rfl rfl (op_rd rfl (rd_load Tryd.underlying3 rfl rfl (by exact ld_blk 1 rfl rfl)) ?_)
      refine gl_yes rfl rfl <| op_rd rfl (rd_fieldAddr rfl (fa_44_3 _)) <| gl_yes rfl rfl (op_rd rfl (rd_load Tryd.underlying3 rfl rfl (by exact ld_blk 0 rfl rfl)) ?_)
      refine gl_yes rfl rfl (op_rd rfl (rd_eql rfl rfl) (gk_dec (fun h22 => ?_) (fun h22 => ?_)))
      · refine gl_op <| op_rd rfl (rd_pick_t rfl rfl) <| gl_op <| op_rd rfl (rd_move rfl) <| gl_yes rfl rfl <| op_rd rfl (rd_fieldAddr rfl (fa_44_4 _)) <| gl_yes rfl rfl (op_rd rfl (rd_load Tryd.underlying3 rfl rfl (by exact ld_blk 1 rfl rfl)) ?_)
        refine gl_yes rfl rfl <| op_rd rfl (rd_fieldAddr rfl (fa_44_4 _)) <| gl_yes rfl rfl (op_rd rfl (rd_load Tryd.underlying3 rfl rfl (by exact ld_blk 0 rfl rfl)) ?_)
        refine gl_yes rfl rfl (op_rd rfl (rd_eql rfl rfl) (gk_dec (fun h29 => ?_) (fun h29 => ?_)))
        · refine gl_op <| op_rd rfl (rd_pick_t rfl rfl) <| gl_op <| op_rd rfl (rd_move rfl) <| gl_yes rfl rfl <| op_rd rfl (rd_fieldAddr rfl (fa_44_5 _)) <| gl_yes rfl rfl (op_rd rfl (rd_load Tryd.underlying3 rfl rfl (by exact ld_blk 1 rfl rfl)) ?_)
          refine gl_yes rfl rfl <| op_rd rfl (rd_fieldAddr rfl (fa_44_5 _)) <| gl_yes rfl rfl (op_rd rfl (rd_load Tryd.underlying3 rfl rfl (by exact ld_blk 0 rfl rfl)) ?_)
          refine gl_yes rfl rfl (op_rd rfl (rd_eql rfl rfl) (gk_dec (fun h36 => ?_) (fun h36 => ?_)))
          · refine gl_op <| op_rd rfl (rd_pick_t rfl rfl) <| gl_op <| op_rd rfl (rd_move rfl) <| gl_yes rfl rfl <| op_rd rfl (rd_fieldAddr rfl (fa_44_2 _)) <| gl_yes rfl rfl (op_rd rfl (rd_load Tryd.underlying29 rfl rfl (by exact ld_blk 1 rfl rfl)) ?_)
            refine gl_yes rfl rfl <| op_rd rfl (rd_fieldAddr rfl (fa_44_2 _)) <| gl_yes rfl rfl (op_rd rfl (rd_load Tryd.underlying29 rfl rfl (by exact ld_blk 0 rfl rfl)) ?_)
            refine gl_yes rfl rfl (op_call rfl (vf := []) (vc := []) rfl rfl Tryd.call16 (fun w1 ho => sameIntsN_ok u.ch v.ch a b ca cb hl w1 (hx.at ho) (hy.at ho)) ?_)
            rintro _ _ ⟨rfl, rfl⟩
            refine gl_op <| op_rd rfl (rd_pick_t rfl rfl) <| gl_op <| op_rd rfl (rd_assign rfl) <| gl_nil <| gx_then <| gc_ret <| gx_ret1 (.inl rfl) Tryd.results19 rfl [] (by decide) ?_
            refine ⟨congrArg Value.bool ?_, rfl⟩
            rw [Bool.eq_iff_iff, decide_eq_true_eq, decide_eq_true_eq]
            constructor
            · intro e
              obtain ⟨u1, u2, u3, u4, u5, u6⟩ := u
              obtain ⟨v1, v2, v3, v4, v5, v6⟩ := v
              simp only at h9 h15 h22 h29 h36 e
              simp only [Rsn.mk.injEq]
              exact ⟨by omega, by omega, e, by omega, by omega, by omega⟩
            · rintro rfl; rfl
          have hne : decide (u = v) = false := decide_eq_false (fun e => by subst e; omega)
          refine gl_op <| op_rd rfl (rd_pick_t rfl rfl) <| gl_op <| op_rd rfl (rd_move rfl) <| gl_no rfl rfl rfl <| gl_no rfl rfl rfl <| gl_no rfl rfl rfl <| gl_no rfl rfl rfl <| gl_no rfl rfl rfl <| gl_op <| op_rd rfl (rd_pick_f rfl rfl) <| gl_op <| op_rd rfl (rd_assign rfl) <| gl_nil <| gx_then <| gc_ret <| gx_ret1 (.inl rfl) Tryd.results19 rfl [] (by decide) ?_
          exact ⟨congrArg Value.bool hne.symm, rfl⟩
        have hne : decide (u = v) = false := decide_eq_false (fun e => by subst e; omega)
        refine gl_op <| op_rd rfl (rd_pick_t rfl rfl) <| gl_op <| op_rd rfl (rd_move rfl) <| gl_no rfl rfl rfl <| gl_no rfl rfl rfl <| gl_no rfl rfl rfl <| gl_no rfl rfl rfl <| gl_no rfl rfl rfl <| gl_op <| op_rd rfl (rd_pick_f rfl rfl) <| gl_op <| op_rd rfl (rd_move rfl) <| gl_no rfl rfl rfl <| gl_no rfl rfl rfl <| gl_no rfl rfl rfl <| gl_no rfl rfl rfl <| gl_no rfl rfl rfl <| gl_op <| op_rd rfl (rd_pick_f rfl rfl) <| gl_op <| op_rd rfl (rd_assign rfl) <| gl_nil <| gx_then <| gc_ret <| gx_ret1 (.inl rfl) Tryd.results19 rfl [] (by decide) ?_
        exact ⟨congrArg Value.bool hne.symm, rfl⟩
      have hne : decide (u = v) = false := decide_eq_false (fun e => by subst e; omega)
      refine gl_op <| op_rd rfl (rd_pick_t rfl rfl) <| gl_op <| op_rd rfl (rd_move rfl) <| gl_no rfl rfl rfl <| gl_no rfl rfl rfl <| gl_no rfl rfl rfl <| gl_no rfl rfl rfl <| gl_no rfl rfl rfl <| gl_op <| op_rd rfl (rd_pick_f rfl rfl) <| gl_op <| op_rd rfl (rd_move rfl) <| gl_no rfl rfl rfl <| gl_no rfl rfl rfl <| gl_no rfl rfl rfl <| gl_no rfl rfl rfl <| gl_no rfl rfl rfl <| gl_op <| op_rd rfl (rd_pick_f rfl rfl) <| gl_op <| op_rd rfl (rd_move rfl) <| gl_no rfl rfl rfl <| gl_no rfl rfl rfl <| gl_no rfl rfl rfl <| gl_no rfl rfl rfl <| gl_no rfl rfl rfl <| gl_op <| op_rd rfl (rd_pick_f rfl rfl) <| gl_op <| op_rd rfl (rd_assign rfl) <| gl_nil <| gx_then ?_
      refine gc_ret <| gx_ret1 (.inl rfl) Tryd.results19 rfl [] (by decide) ?_
      exact ⟨congrArg Value.bool hne.symm, rfl⟩
    have hne : decide (u = v) = false := decide_eq_false (fun e => by subst e; omega)
    refine gl_op <| op_rd rfl (rd_pick_t rfl rfl) <| gl_op <| op_rd rfl (rd_move rfl) <| gl_no rfl rfl rfl <| gl_no rfl rfl rfl <| gl_no rfl rfl rfl <| gl_no rfl rfl rfl <| gl_no rfl rfl rfl <| gl_op <| op_rd rfl (rd_pick_f rfl rfl) <| gl_op <| op_rd rfl (rd_move rfl) <| gl_no rfl rfl rfl <| gl_no rfl rfl rfl <| gl_no rfl rfl rfl <| gl_no rfl rfl rfl <| gl_no rfl rfl rfl <| gl_op <| op_rd rfl (rd_pick_f rfl rfl) <| gl_op <| op_rd rfl (rd_move rfl) <| gl_no rfl rfl rfl <| gl_no rfl rfl rfl <| gl_no rfl rfl rfl <| gl_no rfl rfl rfl <| gl_no rfl rfl rfl <| gl_op <| op_rd rfl (rd_pick_f rfl rfl) <| gl_op <| op_rd rfl (rd_move rfl) <| gl_no rfl rfl rfl <| gl_no rfl rfl rfl ?_
    refine gl_no rfl rfl rfl <| gl_no rfl rfl rfl <| gl_no rfl rfl rfl <| gl_op <| op_rd rfl (rd_pick_f rfl rfl) <| gl_op <| op_rd rfl (rd_assign rfl) <| gl_nil <| gx_then <| gc_ret <| gx_ret1 (.inl rfl) Tryd.results19 rfl [] (by decide) ?_
    exact ⟨congrArg Value.bool hne.symm, rfl⟩
  have hne : decide (u = v) = false := decide_eq_false (fun e => by subst e; omega)
  refine gl_op <| op_rd rfl (rd_move rfl) <| gl_no rfl rfl rfl <| gl_no rfl rfl rfl <| gl_no rfl rfl rfl <| gl_no rfl rfl rfl <| gl_no rfl rfl rfl <| gl_op <| op_rd rfl (rd_pick_f rfl rfl) <| gl_op <| op_rd rfl (rd_move rfl) <| gl_no rfl rfl rfl <| gl_no rfl rfl rfl <| gl_no rfl rfl rfl <| gl_no rfl rfl rfl <| gl_no rfl rfl rfl <| gl_op <| op_rd rfl (rd_pick_f rfl rfl) <| gl_op <| op_rd rfl (rd_move rfl) <| gl_no rfl rfl rfl <| gl_no rfl rfl rfl <| gl_no rfl rfl rfl <| gl_no rfl rfl rfl <| gl_no rfl rfl rfl <| gl_op <| op_rd rfl (rd_pick_f rfl rfl) <| gl_op <| op_rd rfl (rd_move rfl) <| gl_no rfl rfl rfl <| gl_no rfl rfl rfl <| gl_no rfl rfl rfl ?_
  refine gl_no rfl rfl rfl <| gl_no rfl rfl rfl <| gl_op <| op_rd rfl (rd_pick_f rfl rfl) <| gl_op <| op_rd rfl (rd_move rfl) <| gl_no rfl rfl rfl <| gl_no rfl rfl rfl <| gl_no rfl rfl rfl <| gl_no rfl rfl rfl <| gl_no rfl rfl rfl <| gl_op <| op_rd rfl (rd_pick_f rfl rfl) <| gl_op <| op_rd rfl (rd_assign rfl) <| gl_nil <| gx_then <| gc_ret <| gx_ret1 (.inl rfl) Tryd.results19 rfl [] (by decide) ?_
  exact ⟨congrArg Value.bool hne.symm, rfl⟩
set_option maxRecDepth 100000 in
set_option maxHeartbeats 1000000 in
theorem flutes_ok (ns : List Nat) (a : Option Addr) (ca : Nat) (hl : ns.length ≤ 1000) (w0 : World) (hx : OldSl w0 [] a ns.length 1 (ns.map natV)) : Sp Tryd.prog 30 [.slice a ns.length ca] w0 [] (fun v L => ∃ r c, v = .slice (rowA r) ns.length c ∧ L = [.row 42 2 r ns.length c ((flutesP ns).flatMap plC)]) := by
  refine spec_enter Tryd.func30 rfl Tryd.ntmps30 rfl (Own.refl _) ?_
  simp only [argEnv]
  refine gc_seq <| gc_region <| gl_op <| op_rd rfl (rd_assign rfl) <| gl_nil <| gx_then <| gc_seq <| gc_region <| gl_op <| op_rd rfl (rd_assign rfl) <| gl_nil <| gx_then <| gc_seq <| gc_seq <| gc_region <| gl_op <| op_rd rfl (rd_assign rfl) <| gl_nil <| gx_then <| gc_block <| gk_nil 42 2 <| gc_loopF (ι := Nat × Option Nat × Nat) [(0, _)] [] (fun q => q.1 ≤ ns.length) (fun q Fr0 => ((3, .slice (rowA q.2.1) q.1 q.2.2) :: (4, natV q.1) :: Fr0)) (fun q Fr0 => (.row 42 2 q.2.1 q.1 q.2.2 ((flutesP (ns.take q.1)).flatMap plC) :: Fr0)) (fun q => ns.length - q.1) (0, none, 0) (Nat.zero_le _) ⟨rfl, rfl, rfl, trivial⟩ ⟨[0], by decide, rfl⟩ ?_
  rintro ⟨k, r3, c3⟩ hk
  simp only at hk ⊢
  refine gc_seq <| gc_seq <| gc_region <| gl_op <| op_rd rfl (rd_move rfl) <| gl_op <| op_rd rfl (rd_move rfl) <| gl_op <| op_rd rfl (rd_lenSlice Tryd.underlying29 rfl) <| gl_op (op_rd rfl (rd_lss rfl rfl) (gk_dec (fun h8 => ?_) (fun h8 => ?_)))
  · obtain ⟨z, hz⟩ := get_some (show k < ns.length by omega)
    refine gl_nil <| gx_then <| gc_cond_t rfl <| gc_skip <| gx_then <| gc_seq <| gc_block <| gc_region <| gl_op <| op_rd rfl (rd_move rfl) <| gl_op <| op_rd rfl (rd_move rfl) <| gl_op <| op_rd rfl (rd_move rfl) <| gl_op (op_rd rfl (rd_indexOld1 hx Tryd.underlying29 ty_3 rfl rfl (by omega) (by omega)) ?_)
    refine gl_op (op_rd rfl (rd_load Tryd.underlying3 rfl rfl (ld_slN hx (by rw [List.getElem?_map, hz]; rfl))) ?_)
    refine gl_op (op_rd rfl (rd_build rfl (fun _ => bd_42_1 _)) ?_)
    refine gl_op (op_buildSlice (sz := 2) rfl rfl (fun _ => bs_49_1_0 _ _) rfl rfl (fun b17 => ?_))
    refine gl_op (op_appendRow 1 0 Tryd.underlying49 ty_42 rfl (by decide) rfl rfl rfl rfl rfl (by simp [Value.oneCell']) (by omega) (by omega) (fun _ => (by rfl)) (fun r18 c18 => ?_))
    refine gl_op <| op_rd rfl (rd_assign rfl) <| gl_nil <| gx_block <| gx_then ?_
    rw [show (flutesP (ns.take k)).flatMap plC ++ [.int .i64 0, natV z] = (flutesP (ns.take (k + 1))).flatMap plC by rw [take_at hz]; unfold flutesP; rw [List.map_append, List.flatMap_append]; rfl]
    refine gc_region <| gl_op <| op_rd rfl (rd_move rfl) <| gl_op (op_rd rfl (by exact rd_addN (b := 1) rfl rfl (by omega)) ?_)
    refine gl_op <| op_rd rfl (rd_assign rfl) <| gl_nil <| gx_then ?_
    exact gx_cut ((k + 1, r18, c18)) ⟨by simp only; omega, by simp only; omega⟩ ⟨rfl, rfl, rfl, trivial⟩ ⟨[1], by decide, rfl⟩
  refine gl_nil <| gx_then <| gc_cond_f rfl <| gc_exit <| gx_then_exit <| gx_then_exit <| gx_block_exit <| gx_then <| gc_seq ?_
  have hk9 : k = ns.length := by omega
  subst hk9
  rw [List.take_length]
  refine gc_region <| gl_op <| op_rd rfl (rd_move rfl) <| gl_op <| op_rd rfl (rd_assign rfl) <| gl_nil <| gx_then <| gc_ret <| gx_ret1 (.inl rfl) Tryd.results30 rfl [0] (by decide) ?_
  exact ⟨r3, c3, rfl, rfl⟩
end Go.Proofs.YtbjijbbkfgcleaaDoor
namespace Go.Proofs.YtbjijbbkfgcleaaDoor
open Go.Gv
open Go.RowKit
open Go.Sn
open Sx
set_option maxRecDepth 100000 in
set_option maxHeartbeats 1000000 in
theorem Why_ok (s : Org) (h : Hd) (hle : OrgLe s) (hhe : HdLe h) (r0 p0 : Int) (w0 : World) (hS : OrgIn s w0 []) (hH : HdIn h w0 []) (hT : TabIn w0) : Sp Tryd.prog 17 [s.val, h.val, .agg #[.int .i64 r0, .int .i64 p0]] w0 [] (WhyR 3 44 s h r0 p0) := by
  refine spec_enterM Tryd.func17 rfl Tryd.ntmps17 rfl (Own.refl _) ?_
  simp only [argEnv]
  refine rc_seq <| rc_region <| rl_op (by nofun) (op_box rfl rfl rfl (fun b3 => ?_))
  refine rl_op (by nofun) (op_box rfl rfl rfl (fun b4 => ?_))
  refine rl_op (by nofun) (op_box rfl rfl rfl (fun b5 => ?_))
  refine rl_op (by nofun) (op_alloc ty_44 rfl rfl (fun b6 => ?_))
  refine rl_op (by nofun) (op_rd rfl (rd_assign rfl) ?_)
  refine rl_nil <| gx_then <| rc_seq <| rc_seq <| rc_region <| rl_op (by nofun) (op_rd rfl (rd_loadAgg Tryd.underlying27 rfl ty_27 rfl (by exact cs_blk 3 (off := 0) (k := 4) rfl rfl) rfl) ?_)
  refine rl_op (by nofun) (op_rd rfl (rd_loadAgg Tryd.underlying31 rfl ty_31 rfl (by exact cs_blk 2 (off := 0) (k := 3) rfl rfl) rfl) ?_)
  refine rl_op (by nofun) (op_call rfl (vf := []) (vc := []) rfl rfl Tryd.call14 (fun w1 ho => Check_ok s h hle hhe w1 (hS.at ho) (hH.at ho)) ?_)
  rintro _ _ ⟨rfl, rfl⟩
  refine rl_op (by nofun) (op_rd rfl (rd_assign rfl) ?_)
  refine rl_nil <| gx_then <| rc_seq <| rc_region <| rl_op (by nofun) (op_rd rfl (rd_move rfl) ?_)
  refine rl_op (by nofun) (op_rd rfl (rd_neq rfl rfl) (gk_dec (fun h23 => ?_) (fun h23 => ?_)))
  · refine rl_nil <| gx_then <| rc_cond_t rfl <| rc_seq <| rc_region <| rl_op (by nofun) (op_rd rfl (rd_build rfl (fun _ => bd_44_)) ?_)
    refine rl_op (by nofun) (op_rd rfl (rd_move rfl) ?_)
    refine rl_op (by nofun) (op_storeAgg 0 ty_44 rfl rfl rfl rfl rfl rfl (by rfl) ?_)
    refine rl_op (by nofun) (op_rd rfl (rd_assign rfl) ?_)
    refine rl_nil <| gx_then <| rc_ret <| gx_then_ret <| gx_retMV2 [] (.inl rfl) Tryd.results17 (rv_agg Tryd.underlying44 rfl ty_44 rfl (by rfl) (cs_blk 0 (off := 0) (k := 6) rfl rfl)) (rv_tmp rfl) ⟨[0], by decide, rfl⟩ ?_
    exact ⟨b6, .inl ⟨h23, rfl, rfl⟩⟩
  obtain ⟨h, rfl, hg⟩ := good_of (s := s) hhe (by omega)
  have hH := HNIn.of hH
  simp only [HN.hd_val]
  have hA := hg.cx
  have hnd : s.ds.length ≤ 6 := hA.nd
  have hns := hg.ns
  have hss : h.ss.length ≤ s.ss.length := asc_len hg.ssA hg.ssN
  obtain ⟨e0, he0⟩ : ∃ e0, handErr s h.hd = e0 := ⟨_, rfl⟩
  refine rl_nil <| gx_then <| rc_cond_f rfl <| rc_skip <| gx_then <| rc_seq <| rc_region <| rl_op (by nofun) (op_rd rfl (rd_loadAgg Tryd.underlying27 rfl ty_27 rfl (by exact cs_blk 3 (off := 0) (k := 4) rfl rfl) rfl) ?_)
  refine rl_op (by nofun) (op_rd rfl (rd_loadAgg Tryd.underlying31 rfl ty_31 rfl (by exact cs_blk 2 (off := 0) (k := 3) rfl rfl) rfl) ?_)
  refine rl_op (by nofun) (op_call rfl (vf := []) (vc := []) rfl rfl Tryd.call32 (fun w1 ho => acting_ok s h hle hg w1 (hS.at ho) (hH.at ho)) ?_)
  rintro _ _ ⟨b30, k27, c27, m28, rfl, rfl⟩
  unfold BK RS OM
  have hset := act_set hA
  have hsl0 : (actP (cxN s h)).sets.length = s.ds.length := hset.len
  refine rl_op (by nofun) (op_alloc ty_82 rfl rfl (fun b9 => ?_))
  refine rl_op (by nofun) (op_store 0 ty_82 rfl rfl rfl rfl rfl (by rfl) (by rfl) ?_)
  refine rl_nil <| gx_then <| rc_seq <| rc_region <| rl_op (by nofun) (op_alloc ty_44 rfl rfl (fun b10 => ?_))
  refine rl_nil <| gx_then <| rc_seq <| rc_region <| rl_op (by nofun) (op_alloc ty_4 rfl rfl (fun b11 => ?_))
  refine rl_op (by nofun) (op_store 0 ty_4 rfl rfl rfl rfl rfl (by rfl) (by rfl) ?_)
  refine rl_nil <| gx_then <| rc_seq <| rc_seq <| rc_region <| rl_op (by nofun) (op_rd rfl (rd_fieldAddr rfl (fa_31_1 _)) ?_)
  refine rl_op (by nofun) (op_rd rfl (rd_load Tryd.underlying29 rfl rfl (by exact ld_blk 8 rfl rfl)) ?_)
  refine rl_op (by nofun) (op_rd rfl (rd_lenSlice Tryd.underlying29 rfl) ?_)
  refine rl_op (by nofun) (op_rd rfl (rd_move rfl) ?_)
  refine rl_nil <| gx_then <| rc_block <| gk_nil 3 1 <| rc_loopM (ι := Nat × List Nat × Option Nat × Nat) [(3, _), (5, _), (6, _), (9, _), (10, _), (11, _), (30, _), (31, _)] [_, _, _, _, _, _, _, _] (fun q => q.1 ≤ h.ss.length) (fun q => q.2.1.map Go.Gv.mark) (fun q Fr0 => ((32, natV q.1) :: Fr0)) (fun q Fr0 => (HL.blk b10 ((bestR (whyK s h r0 p0 q.1)).cells (rowA q.2.2.1) q.2.2.2) 44 :: HL.blk b11 [.bool (whyK s h r0 p0 q.1).isSome] 4 :: HL.row 3 1 q.2.2.1 (bestR (whyK s h r0 p0 q.1)).ch.length q.2.2.2 ((bestR (whyK s h r0 p0 q.1)).ch.map natV) :: (Fr0 ++ (q.2.1.map markH)))) (fun q => h.ss.length - q.1) (0, [], none, 0) (Nat.zero_le _) rfl ⟨rfl, rfl, rfl, rfl, rfl, rfl, rfl, rfl, rfl, trivial⟩ ⟨[2, 1, 0, 3, 4, 5, 6, 7, 8, 9, 10], by decide, rfl⟩ ?_
  rintro ⟨k, Ds, rB, cB⟩ hk
  simp only at hk ⊢
  refine rc_seq <| rc_region <| rl_op (by nofun) (op_rd rfl (rd_lss rfl rfl) (gk_dec (fun h33 => ?_) (fun h33 => ?_)))
  · obtain ⟨i0, hi0⟩ := get_some (show k < h.ss.length by omega)
    obtain ⟨x, hx⟩ := get_some (hg.ssN i0 (List.mem_of_getElem? hi0))
    have hxm := List.mem_of_getElem? hx
    obtain ⟨hv0, hv1, hpo, hp12, hpb⟩ := Go.Sn.stop_ok hg hx
    have hpc := hle.pc x hxm
    obtain ⟨X, hX⟩ := get_some (show x.div.toNat < (actP (cxN s h)).sets.length by omega)
    have hXl := hset.lt X (List.mem_of_getElem? hX)
    have hbl := bitsOf_len X
    have hkX := keysP_at hA (show x.div.toNat < s.ds.length by omega) hX
    have hil : i0 < s.ss.length := (List.getElem?_eq_some_iff.1 hx).1
    have hdn : x.div = ((x.div.toNat : Nat) : Int) := by omega
    have hnx := whyK_next (r0 := r0) (p0 := p0) hi0 hx hkX
    refine rl_nil <| gx_then <| rc_seq <| rc_cond_t rfl <| rc_skip <| gx_then <| rc_seq <| rc_block <| rc_seq <| rc_region <| rl_op (by nofun) (op_rd rfl (rd_indexOld1 hH.t Tryd.underlying29 ty_3 rfl rfl (by omega) (by omega)) ?_)
    refine rl_op (by nofun) (op_rd rfl (rd_load Tryd.underlying3 rfl rfl (ld_slN hH.t (get_nz hi0))) ?_)
    refine rl_op (by nofun) (op_alloc ty_3 rfl rfl (fun b13 => ?_))
    refine rl_op (by nofun) (op_store 0 ty_3 rfl rfl rfl rfl rfl (by rfl) (by rfl) ?_)
    refine rl_nil <| gx_then <| rc_seq <| rc_region <| rl_op (by nofun) (op_rd rfl (rd_fieldAddr rfl (fa_27_2 _)) ?_)
    refine rl_op (by nofun) (op_rd rfl (rd_load Tryd.underlying24 rfl rfl (by exact ld_blk 11 rfl rfl)) ?_)
    refine rl_op (by nofun) (op_rd rfl (rd_load Tryd.underlying3 rfl rfl (by exact ld_blk 0 rfl rfl)) ?_)
    refine rl_op (by nofun) (op_rd rfl (rd_indexOld hS.t Tryd.underlying24 ty_57 rfl rfl (by omega) (by omega)) ?_)
    refine rl_op (by nofun) (op_rd rfl (rd_loadAgg Tryd.underlying57 rfl ty_57 rfl (cs_slN hS.t (flat_drop_get St.cells 5 (fun _ => rfl) hx)) rfl) ?_)
    refine rl_op (by nofun) (op_alloc ty_57 rfl rfl (fun b14 => ?_))
    refine rl_op (by nofun) (op_storeAgg 0 ty_57 rfl rfl rfl rfl rfl rfl (by rfl) ?_)
    refine rl_nil <| gx_then <| rc_seq ?_
    simp only [St.cells]
    rw [show Value.int .i64 x.div = natV x.div.toNat from congrArg (Value.int .i64) hdn]
    refine rc_drawP [0, 1, 2, 3, 4, 5, 6, 7, 8, 9, 10, 11, 12] true 8 rfl rfl <| ga_first 0 (bm 9 1) rfl rfl rfl rfl (by kernel_rfl) (by kernel_rfl) ⟨[0, 1, 2, 3, 4, 5, 6, 7, 8, 9, 10, 11, 12], by decide, rfl⟩ (qt_rd (rd_load Tryd.underlying82 rfl rfl (by exact ld_blk 5 rfl rfl))) ?_
    refine ga_first 1 (bm 9 3) rfl rfl rfl rfl (by kernel_rfl) (by kernel_rfl) ⟨[0, 1, 2, 3, 4, 5, 6, 7, 8, 9, 10, 11, 12], by decide, rfl⟩ (qt_rd (rd_nilCheck rfl)) ?_
    refine ga_first 2 (bm 9 7) rfl rfl rfl rfl (by kernel_rfl) (by kernel_rfl) ⟨[0, 1, 2, 3, 4, 5, 6, 7, 8, 9, 10, 11, 12], by decide, rfl⟩ (qt_rd (rd_fieldAddr rfl (fa_87_0 _))) ?_
    refine ga_first 3 (bm 9 15) rfl rfl rfl rfl (by kernel_rfl) (by kernel_rfl) ⟨[0, 1, 2, 3, 4, 5, 6, 7, 8, 9, 10, 11, 12], by decide, rfl⟩ (qt_rd (rd_load Tryd.underlying84 rfl rfl (by exact ld_blk 6 rfl rfl))) ?_
    refine ga_first 4 (bm 9 31) rfl rfl rfl rfl (by kernel_rfl) (by kernel_rfl) ⟨[0, 1, 2, 3, 4, 5, 6, 7, 8, 9, 10, 11, 12], by decide, rfl⟩ (qt_rd (rd_fieldAddr rfl (fa_57_1 _))) ?_
    refine ga_first 5 (bm 9 63) rfl rfl rfl rfl (by kernel_rfl) (by kernel_rfl) ⟨[0, 1, 2, 3, 4, 5, 6, 7, 8, 9, 10, 11, 12], by decide, rfl⟩ (qt_rd (rd_load Tryd.underlying3 rfl rfl (by exact ld_blk 0 rfl rfl))) ?_
    refine ga_first 6 (bm 9 127) rfl rfl rfl rfl (by kernel_rfl) (by kernel_rfl) ⟨[0, 1, 2, 3, 4, 5, 6, 7, 8, 9, 10, 11, 12], by decide, rfl⟩ (qt_rd (by exact rd_indexRow 7 rfl Tryd.underlying84 ty_90 rfl rfl (by omega) (by omega))) ?_
    refine ga_first 7 (bm 9 255) rfl rfl rfl rfl (by kernel_rfl) (by kernel_rfl) ⟨[0, 1, 2, 3, 4, 5, 6, 7, 8, 9, 10, 11, 12], by decide, rfl⟩ (qt_rd (rd_loadAgg Tryd.underlying90 rfl ty_90 rfl (cs_row 7 (a := some k27) rfl (flat_drop_get setC 2 (fun _ => rfl) hX)) rfl)) ?_
    simp only [setC]
    refine ga_only 8 (bm 9 511) rfl rfl (by kernel_rfl) (by kernel_rfl) (.inr ⟨[0, 1, 2, 3, 4, 5, 6, 7, 8, 9, 10, 11, 12], by decide, rfl⟩) (op_call rfl (vf := []) (vc := []) rfl rfl Tryd.call39 (fun w1 ho => all_ok X w1) ?_)
    rintro _ _ ⟨bx, rfl, rfl⟩
    refine ga_end (by kernel_rfl) (.inr ⟨[1, 2, 3, 4, 5, 6, 7, 8, 9, 10, 11, 12, 13], by decide, rfl⟩) ?_
    refine gx_then <| rc_block <| gk_env [(3, _), (5, _), (6, _), (9, _), (10, _), (11, _), (13, _), (14, _), (30, _), (31, _), (32, _), (33, _), (34, _), (35, _), (36, _), (37, _), (38, _), (39, _), (40, _), (41, _), (42, _), (43, _), (44, _), (45, _), (46, _), (47, _), (48, _), (49, _)] ⟨rfl, rfl, rfl, rfl, rfl, rfl, rfl, rfl, rfl, rfl, rfl, rfl, rfl, rfl, rfl, rfl, rfl, rfl, rfl, rfl, rfl, rfl, rfl, rfl, rfl, rfl, rfl, rfl, trivial⟩ ?_
    refine rc_rangeF (β := Nat) (N := (bitsOf X).length) (xs := fun i => natV ((bitsOf X).getD i 0)) (gf := 73) (caps := [.pointer (some ⟨bx, 0, none⟩)]) (fun i b => [(15, .pointer (some ⟨b, 0, none⟩))]) (fun i b => [.blk b [natV ((bitsOf X).getD i 0)] 3]) rfl Tryd.call73 rfl (fun i L => ∃ r c, L = [HL.blk bx (setC X) 90, .blk b14 [.string x.name, natV x.div.toNat, .int .i64 x.num, .int .i64 x.den, .slice x.pa x.ps.length x.pc] 57, .blk b13 [natV i0] 3, HL.blk b10 ((bestR (whyI s h r0 p0 (whyK s h r0 p0 k) i0 x (bitsOf X) i)).cells (rowA r) c) 44, HL.blk b11 [.bool (whyI s h r0 p0 (whyK s h r0 p0 k) i0 x (bitsOf X) i).isSome] 4, HL.row 3 1 r (bestR (whyI s h r0 p0 (whyK s h r0 p0 k) i0 x (bitsOf X) i)).ch.length c ((bestR (whyI s h r0 p0 (whyK s h r0 p0 k) i0 x (bitsOf X) i)).ch.map natV), .blk b9 [.pointer (some ⟨b30, 0, none⟩)] 82, .blk b30 [.slice (rowA (some k27)) s.ds.length c27, .map (some m28)] 87, .row 90 2 (some k27) s.ds.length c27 ((actP (cxN s h)).sets.flatMap setC), .obj m28 (actO (actP (cxN s h)).tb), HL.blk b6 ((bestR none).cells none 0) 44, .blk b5 [.int .i64 r0, .int .i64 p0] 42, .blk b4 h.val.cells.toList 31, .blk b3 s.val.cells.toList 27] ++ Ds.map markH) (fun _ _ _ => False) (fun L => HL.blk bx (setC X) 90 ∈ L) (fun i L hd h => by
      rcases h with ⟨r, c, rfl⟩ | ⟨c, h⟩
      · exact List.mem_append_right _ (List.mem_append_left _ List.mem_cons_self)
      · exact h.elim) (⟨rB, cB, by rw [whyI_zero]; rfl⟩) (fun lb J Jx hG w1 L hY hJ hO => allIt_ok X hXl bx lb J Jx hG w1 L hY hJ hO.self (hT.at hO (by decide)) (old_out hO hT.lt (by decide))) ?_ ?_ ?_ ?_
    · intro i lb w1 S1 L1 K1 Q1 hk1
      refine rc_region <| rl_op (by nofun) (op_alloc ty_3 rfl rfl (fun b15 => ?_))
      refine rl_op (by nofun) (op_store 0 ty_3 rfl rfl rfl rfl rfl (by rfl) (by rfl) ?_)
      refine rl_nil <| gx_then ?_
      exact gk_env _ (by exact ⟨rfl, rfl, rfl, rfl, rfl, rfl, rfl, rfl, rfl, rfl, rfl, rfl, rfl, rfl, rfl, rfl, rfl, rfl, rfl, rfl, rfl, rfl, rfl, rfl, rfl, rfl, rfl, rfl, rfl, trivial⟩) (hk1 b15)
    · intro i hi L hI lb D rec w1 S1 b15 rec9 hO9 hS9
      obtain ⟨r, c, rfl⟩ := hI
      have hS1 := hS.atS (Sc := S1) hO9 (by rw [hS9]; exact own_new hO9)
      obtain ⟨n, hn⟩ := get_some hi
      have hnn : (bitsOf X).getD i 0 = n := getD_some hn
      have hnb := bitsOf_mem.1 (List.mem_of_getElem? hn)
      obtain ⟨v, hv⟩ := (hset.has (x.div.toNat, n) (show x.div.toNat < s.ds.length by omega)).1 (by unfold hasS; rw [getD_some hX]; exact hnb.2)
      have hsh := ((act_chains hA).best _ _ hv).short hA
      rw [hnn]
      refine rc_block <| rc_seq <| rc_region <| rl_op (by nofun) (op_rd rfl (rd_fieldAddr rfl (fa_57_3 _)) ?_)
      refine rl_op (by nofun) (op_rd rfl (rd_load Tryd.underlying55 rfl rfl (by exact ld_blk 4 rfl rfl)) ?_)
      refine rl_op (by nofun) (op_rd rfl (rd_makeFunc (fs := []) (cs := [.tmp 5, .tmp 15]) rfl rfl) ?_)
      refine rl_op (by nofun) (op_call rfl (vf := []) (vc := []) rfl rfl Tryd.call40 (fun w1 ho => containsPt_ok x n r0 p0 (by omega) hpb b5 b15 w1 ((hS1.p x hxm).at ho) (blkSl ho 14 rfl rfl) (blkSl ho 0 rfl rfl)) ?_)
      rintro _ _ ⟨rfl, rfl⟩
      refine gk_bool (fun hpz => ?_) (fun hpz => ?_)
      · refine rl_op (by nofun) (op_rd rfl (rd_assign rfl) ?_)
        refine rl_nil <| gx_then <| rc_seq <| rc_seq <| rc_region <| rl_op (by nofun) (op_rd rfl (rd_move rfl) ?_)
        refine rl_op (by nofun) (op_rd rfl (rd_not rfl) ?_)
        refine rl_nil <| gx_then <| rc_cond_f rfl <| rc_skip <| gx_then <| rc_seq <| rc_region <| rl_op (by nofun) (op_rd rfl (rd_load Tryd.underlying82 rfl rfl (by exact ld_blk 9 rfl rfl)) ?_)
        refine rl_op (by nofun) (op_rd rfl (rd_fieldAddr rfl (fa_57_1 _)) ?_)
        refine rl_op (by nofun) (op_rd rfl (rd_load Tryd.underlying3 rfl rfl (by exact ld_blk 4 rfl rfl)) ?_)
        refine rl_op (by nofun) (op_rd rfl (rd_load Tryd.underlying3 rfl rfl (by exact ld_blk 0 rfl rfl)) ?_)
        refine rl_op (by nofun) (op_rd rfl (rd_build rfl (fun _ => bd_110_0_1 _ _)) ?_)
        refine rl_op (by nofun) (op_callMT [_, _, _, _, _, _, _, _, _, _, _, _, _, _, _, _, _] (Ds.map markH) [10, 12] [0, 1, 2, 3, 4, 5, 6, 7, 8, 9, 11, 13, 14, 15, 16] 17 rfl rfl rfl (vf := []) (vc := []) rfl rfl Tryd.call42 (by decide) (by decide) rfl (fun w how hc => chain_ok s.ds.length b30 k27 c27 m28 (actP (cxN s h)).tb (act_lk hA) (x.div.toNat, n) v hv (by omega) _ w hc) ?_)
        rintro _ _ ⟨r63, c63, rfl, rfl⟩
        refine rl_op (by nofun) (op_rd rfl (rd_move rfl) ?_)
        refine rl_op (by nofun) (op_rd rfl (rd_extract rfl rfl) ?_)
        refine rl_op (by nofun) (op_rd rfl (rd_extract rfl rfl) ?_)
        refine rl_op (by nofun) (op_alloc ty_110 rfl rfl (fun b17 => ?_))
        refine rl_op (by nofun) (op_storeAgg 0 ty_110 rfl rfl rfl rfl rfl rfl (by rfl) ?_)
        refine rl_op (by nofun) (op_rd rfl (rd_assign rfl) ?_)
        refine rl_nil <| gx_then <| rc_seq <| rc_region <| rl_op (by nofun) (op_rd rfl (rd_load Tryd.underlying4 rfl rfl (by exact ld_blk 11 rfl rfl)) ?_)
        refine gk_bool (fun h66 => ?_) (fun h66 => ?_)
        · refine rl_op (by nofun) (op_rd rfl (rd_not rfl) ?_)
          refine rl_op (by nofun) (op_rd rfl (rd_move rfl) ?_)
          refine rl_yes (by nofun) rfl rfl (op_rd rfl (rd_move rfl) ?_)
          refine rl_yes (by nofun) rfl rfl (op_rd rfl (rd_lenSlice Tryd.underlying29 rfl) ?_)
          refine rl_yes (by nofun) rfl rfl (op_rd rfl (rd_fieldAddr rfl (fa_44_2 _)) ?_)
          refine rl_yes (by nofun) rfl rfl (op_rd rfl (rd_load Tryd.underlying29 rfl rfl (by exact ld_blk 10 rfl rfl)) ?_)
          refine rl_yes (by nofun) rfl rfl (op_rd rfl (rd_lenSlice Tryd.underlying29 rfl) ?_)
          refine rl_yes (by nofun) rfl rfl (op_rd rfl (rd_lss rfl rfl) (gk_dec (fun h74 => ?_) (fun h74 => ?_)))
          · have hch : (whyI s h r0 p0 (whyK s h r0 p0 k) i0 x (bitsOf X) i) = none ∨ v.2.length < (bestR (whyI s h r0 p0 (whyK s h r0 p0 k) i0 x (bitsOf X) i)).ch.length := .inr (by omega)
            refine rl_op (by nofun) (op_rd rfl (rd_pick_f rfl rfl) ?_)
            refine rl_nil <| gx_then <| rc_cond_t rfl <| rc_seq <| rc_region <| rl_op (by nofun) (op_rd rfl (rd_fieldAddr rfl (fa_110_0 _)) ?_)
            refine rl_op (by nofun) (op_rd rfl (rd_load Tryd.underlying3 rfl rfl (by exact ld_blk 0 rfl rfl)) ?_)
            refine rl_op (by nofun) (op_rd rfl (rd_fieldAddr rfl (fa_110_1 _)) ?_)
            refine rl_op (by nofun) (op_rd rfl (rd_load Tryd.underlying3 rfl rfl (by exact ld_blk 0 rfl rfl)) ?_)
            refine rl_op (by nofun) (op_rd rfl (rd_move rfl) ?_)
            refine rl_op (by nofun) (op_rd rfl (rd_fieldAddr rfl (fa_57_1 _)) ?_)
            refine rl_op (by nofun) (op_rd rfl (rd_load Tryd.underlying3 rfl rfl (by exact ld_blk 8 rfl rfl)) ?_)
            refine rl_op (by nofun) (op_rd rfl (rd_load Tryd.underlying3 rfl rfl (by exact ld_blk 4 rfl rfl)) ?_)
            refine rl_op (by nofun) (op_rd rfl (rd_load Tryd.underlying3 rfl rfl (by exact ld_blk 9 rfl rfl)) ?_)
            refine rl_op (by nofun) (op_rd rfl (rd_build rfl (fun _ => bd_44_0_1_2_3_4_5 _ _ _ _ _ _ _ _)) ?_)
            refine rl_op (by nofun) (op_storeAgg 10 ty_44 rfl rfl rfl rfl rfl rfl (by rfl) ?_)
            refine rl_nil <| gx_then <| rc_region <| rl_op (by nofun) (op_store 11 ty_4 rfl rfl rfl rfl rfl (by rfl) (by rfl) ?_)
            refine rl_nil <| gx_block ?_
            have hws : (whyI s h r0 p0 (whyK s h r0 p0 k) i0 x (bitsOf X) (i + 1)) = (some ⟨v.1.1, v.1.2, v.2, x.div.toNat, n, i0⟩) := by rw [whyI_snoc hn]; exact stepW_yes hpz hv hch
            rw [show HL.blk b10 [natV v.1.1, natV v.1.2, .slice (rowA r63) v.2.length c63, natV x.div.toNat, natV n, natV i0] 44 = HL.blk b10 ((bestR (whyI s h r0 p0 (whyK s h r0 p0 k) i0 x (bitsOf X) (i + 1))).cells (rowA r63) c63) 44 by rw [hws]; rfl, show HL.blk b11 ([.bool (whyI s h r0 p0 (whyK s h r0 p0 k) i0 x (bitsOf X) i).isSome].set 0 (.bool true)) 4 = HL.blk b11 [.bool (whyI s h r0 p0 (whyK s h r0 p0 k) i0 x (bitsOf X) (i + 1)).isSome] 4 by rw [hws]; rfl, show HL.row 3 1 r63 v.2.length c63 (v.2.map natV) = HL.row 3 1 r63 (bestR (whyI s h r0 p0 (whyK s h r0 p0 k) i0 x (bitsOf X) (i + 1))).ch.length c63 ((bestR (whyI s h r0 p0 (whyK s h r0 p0 k) i0 x (bitsOf X) (i + 1))).ch.map natV) by rw [hws]; rfl]
            exact rp_normal _ (⟨r63, c63, rfl⟩) (sub_tail (A := [_, _, _, _, _, _, _, _, _, _, _, _, _, _, _, _]) (B := [_, _, _, _, _, _, _, _, _, _, _, _, _, _, _, _, _, _, _]) (T := (Ds.map markH)) [5, 6, 7, 8, 9, 10, 11, 3, 13, 1, 14, 2, 15, 16, 17, 18] 19 (by decide) (by decide) rfl rfl)
          obtain ⟨u, hbu⟩ : ∃ u, (whyI s h r0 p0 (whyK s h r0 p0 k) i0 x (bitsOf X) i) = some u := Option.isSome_iff_exists.1 h66
          have hch : ¬ v.2.length < u.ch.length := by rw [hbu] at h74; have h9 : (bestR (some u)) = u := rfl; rw [h9] at h74; omega
          refine rl_op (by nofun) (op_rd rfl (rd_pick_f rfl rfl) ?_)
          refine rl_nil <| gx_then <| rc_cond_f rfl <| rc_skip <| gx_block ?_
          have hws : (whyI s h r0 p0 (whyK s h r0 p0 k) i0 x (bitsOf X) (i + 1)) = (whyI s h r0 p0 (whyK s h r0 p0 k) i0 x (bitsOf X) i) := by rw [whyI_snoc hn, hbu]; exact stepW_old hpz hv hch
          rw [← hws]
          exact rp_normal _ (⟨r, c, rfl⟩) (sub_tail (A := [_, _, _, _, _, _, _, _, _, _, _, _, _, _, _, _]) (B := [_, _, _, _, _, _, _, _, _, _, _, _, _, _, _, _, _, _, _]) (T := (Ds.map markH)) [5, 6, 7, 8, 9, 10, 11, 12, 13, 1, 14, 2, 15, 16, 17, 18] 19 (by decide) (by decide) rfl rfl)
        have hch : (whyI s h r0 p0 (whyK s h r0 p0 k) i0 x (bitsOf X) i) = none ∨ v.2.length < (bestR (whyI s h r0 p0 (whyK s h r0 p0 k) i0 x (bitsOf X) i)).ch.length := .inl (by cases hq : (whyI s h r0 p0 (whyK s h r0 p0 k) i0 x (bitsOf X) i) with
          | none => rfl
          | some u => rw [hq] at h66; cases h66)
        refine rl_op (by nofun) (op_rd rfl (rd_not rfl) ?_)
        refine rl_op (by nofun) (op_rd rfl (rd_move rfl) ?_)
        refine rl_no rfl rfl rfl <| rl_no rfl rfl rfl <| rl_no rfl rfl rfl <| rl_no rfl rfl rfl <| rl_no rfl rfl rfl <| rl_no rfl rfl rfl <| rl_op (by nofun) (op_rd rfl (rd_pick_t rfl rfl) ?_)
        refine rl_nil <| gx_then <| rc_cond_t rfl <| rc_seq <| rc_region <| rl_op (by nofun) (op_rd rfl (rd_fieldAddr rfl (fa_110_0 _)) ?_)
        refine rl_op (by nofun) (op_rd rfl (rd_load Tryd.underlying3 rfl rfl (by exact ld_blk 0 rfl rfl)) ?_)
        refine rl_op (by nofun) (op_rd rfl (rd_fieldAddr rfl (fa_110_1 _)) ?_)
        refine rl_op (by nofun) (op_rd rfl (rd_load Tryd.underlying3 rfl rfl (by exact ld_blk 0 rfl rfl)) ?_)
        refine rl_op (by nofun) (op_rd rfl (rd_move rfl) ?_)
        refine rl_op (by nofun) (op_rd rfl (rd_fieldAddr rfl (fa_57_1 _)) ?_)
        refine rl_op (by nofun) (op_rd rfl (rd_load Tryd.underlying3 rfl rfl (by exact ld_blk 8 rfl rfl)) ?_)
        refine rl_op (by nofun) (op_rd rfl (rd_load Tryd.underlying3 rfl rfl (by exact ld_blk 4 rfl rfl)) ?_)
        refine rl_op (by nofun) (op_rd rfl (rd_load Tryd.underlying3 rfl rfl (by exact ld_blk 9 rfl rfl)) ?_)
        refine rl_op (by nofun) (op_rd rfl (rd_build rfl (fun _ => bd_44_0_1_2_3_4_5 _ _ _ _ _ _ _ _)) ?_)
        refine rl_op (by nofun) (op_storeAgg 10 ty_44 rfl rfl rfl rfl rfl rfl (by rfl) ?_)
        refine rl_nil <| gx_then <| rc_region <| rl_op (by nofun) (op_store 11 ty_4 rfl rfl rfl rfl rfl (by rfl) (by rfl) ?_)
        refine rl_nil <| gx_block ?_
        have hws : (whyI s h r0 p0 (whyK s h r0 p0 k) i0 x (bitsOf X) (i + 1)) = (some ⟨v.1.1, v.1.2, v.2, x.div.toNat, n, i0⟩) := by rw [whyI_snoc hn]; exact stepW_yes hpz hv hch
        rw [show HL.blk b10 [natV v.1.1, natV v.1.2, .slice (rowA r63) v.2.length c63, natV x.div.toNat, natV n, natV i0] 44 = HL.blk b10 ((bestR (whyI s h r0 p0 (whyK s h r0 p0 k) i0 x (bitsOf X) (i + 1))).cells (rowA r63) c63) 44 by rw [hws]; rfl, show HL.blk b11 ([.bool (whyI s h r0 p0 (whyK s h r0 p0 k) i0 x (bitsOf X) i).isSome].set 0 (.bool true)) 4 = HL.blk b11 [.bool (whyI s h r0 p0 (whyK s h r0 p0 k) i0 x (bitsOf X) (i + 1)).isSome] 4 by rw [hws]; rfl, show HL.row 3 1 r63 v.2.length c63 (v.2.map natV) = HL.row 3 1 r63 (bestR (whyI s h r0 p0 (whyK s h r0 p0 k) i0 x (bitsOf X) (i + 1))).ch.length c63 ((bestR (whyI s h r0 p0 (whyK s h r0 p0 k) i0 x (bitsOf X) (i + 1))).ch.map natV) by rw [hws]; rfl]
        exact rp_normal _ (⟨r63, c63, rfl⟩) (sub_tail (A := [_, _, _, _, _, _, _, _, _, _, _, _, _, _, _, _]) (B := [_, _, _, _, _, _, _, _, _, _, _, _, _, _, _, _, _, _, _]) (T := (Ds.map markH)) [5, 6, 7, 8, 9, 10, 11, 3, 13, 1, 14, 2, 15, 16, 17, 18] 19 (by decide) (by decide) rfl rfl)
      refine rl_op (by nofun) (op_rd rfl (rd_assign rfl) ?_)
      refine rl_nil <| gx_then <| rc_seq <| rc_seq <| rc_region <| rl_op (by nofun) (op_rd rfl (rd_move rfl) ?_)
      refine rl_op (by nofun) (op_rd rfl (rd_not rfl) ?_)
      refine rl_nil <| gx_then <| rc_cond_t rfl <| rc_exit <| gx_then_exit <| gx_block_exit ?_
      have hws : (whyI s h r0 p0 (whyK s h r0 p0 k) i0 x (bitsOf X) (i + 1)) = (whyI s h r0 p0 (whyK s h r0 p0 k) i0 x (bitsOf X) i) := by rw [whyI_snoc hn]; exact stepW_no hpz
      rw [← hws]
      exact rp_normal _ (⟨r, c, rfl⟩) (sub_tail (A := [_, _, _, _, _, _, _, _, _, _, _, _, _, _, _, _]) (B := [_, _, _, _, _, _, _, _, _, _, _, _, _, _, _, _, _]) (T := (Ds.map markH)) [1, 2, 3, 4, 5, 6, 7, 8, 9, 10, 11, 12, 13, 14, 15, 16] 17 (by decide) (by decide) rfl rfl)
    · intro D L hI
      obtain ⟨r, c, rfl⟩ := hI
      rw [hnx]
      refine gk_front [_, _, _, _, _, _, _, _, _, _, _, _, _, _, _] [_, _, _, _, _, _, _, _, _, _, _, _, _, _] (Ds.map markH) [1, 2, 3, 4, 5, 6, 7, 8, 9, 10, 11, 12, 13, 14] 0 15 rfl (x := markH D) rfl rfl (by decide) (by decide) ?_
      refine gx_block <| gx_block <| gx_then <| rc_region <| rl_op (by nofun) (op_rd rfl (by exact rd_addN (b := 1) rfl rfl (by omega)) ?_)
      refine rl_op (by nofun) (op_rd rfl (rd_move rfl) ?_)
      refine rl_nil <| gx_then ?_
      exact gx_cutM ((k + 1, D :: Ds, r, c)) ⟨by simp only; omega, by simp only; omega⟩ rfl ⟨rfl, rfl, rfl, rfl, rfl, rfl, rfl, rfl, rfl, trivial⟩ (sub_tail (A := [_, _, _, _, _, _, _, _, _, _, _]) (B := [_, _, _, _, _, _, _, _, _, _, _, _, _, _]) (T := ((D :: Ds).map markH)) [3, 4, 5, 6, 7, 8, 9, 10, 11, 12, 13] 14 (by decide) (by decide) rfl rfl)
    · intro D c i L hi hI
      exact hI.elim
  refine rl_nil <| gx_then <| rc_seq <| rc_cond_f rfl <| rc_exit <| gx_then_exit <| gx_then_exit <| gx_block_exit <| gx_then <| rc_seq <| rc_seq <| rc_region <| rl_op (by nofun) (op_rd rfl (rd_load Tryd.underlying4 rfl rfl (by exact ld_blk 1 rfl rfl)) ?_)
  refine gk_bool (fun h87 => ?_) (fun h87 => ?_)
  · refine rl_op (by nofun) (op_rd rfl (rd_not rfl) ?_)
    refine rl_nil <| gx_then <| rc_cond_f rfl <| rc_skip <| gx_then <| rc_seq <| rc_region <| rl_op (by nofun) (op_rd rfl (rd_loadAgg Tryd.underlying44 rfl ty_44 rfl (by exact cs_blk 0 (off := 0) (k := 6) rfl rfl) rfl) ?_)
    refine rl_op (by nofun) (op_storeAgg 7 ty_44 rfl rfl rfl rfl rfl rfl (by rfl) ?_)
    refine rl_op (by nofun) (op_rd rfl (rd_assign rfl) ?_)
    refine rl_nil <| gx_then <| rc_ret ?_
    have hk9 : k = h.ss.length := by omega
    subst hk9
    refine gk_sub (sub_tail (A := [_, _]) (B := [_, _, _, _, _, _, _, _, _, _, _]) (T := (Ds.map markH)) [7, 2] 11 (by decide) (by decide) rfl rfl) ?_
    refine gk_sub (sub_rot [_, _] (Ds.map markH)) ?_
    obtain ⟨u, hbu⟩ : ∃ u, (whyK s h r0 p0 h.ss.length) = some u := Option.isSome_iff_exists.1 h87
    rw [hbu]
    refine gx_retMV2 Ds (.inl rfl) Tryd.results17 (rv_agg Tryd.underlying44 rfl ty_44 rfl (by rfl) (cs_blk 0 (off := 0) (k := 6) rfl rfl)) (rv_tmp rfl) (Sub.refl' _) ?_
    exact ⟨b6, .inr ⟨by omega, h, rfl, hg, .inr ⟨u, rB, cB, hbu, rfl, rfl⟩⟩⟩
  refine rl_op (by nofun) (op_rd rfl (rd_not rfl) ?_)
  refine rl_nil <| gx_then <| rc_cond_t rfl <| rc_seq <| rc_region <| rl_op (by nofun) (op_rd rfl (rd_build rfl (fun _ => bd_44_)) ?_)
  refine rl_op (by nofun) (op_storeAgg 7 ty_44 rfl rfl rfl rfl rfl rfl (by rfl) ?_)
  refine rl_op (by nofun) (op_rd rfl (rd_assign rfl) ?_)
  refine rl_nil <| gx_then <| rc_ret <| gx_then_ret ?_
  have hk9 : k = h.ss.length := by omega
  subst hk9
  refine gk_sub (sub_tail (A := [_]) (B := [_, _, _, _, _, _, _, _, _, _, _]) (T := (Ds.map markH)) [7] 11 (by decide) (by decide) rfl rfl) ?_
  refine gk_sub (sub_rot [_] (Ds.map markH)) <| gx_retMV2 Ds (.inl rfl) Tryd.results17 (rv_agg Tryd.underlying44 rfl ty_44 rfl (by rfl) (cs_blk 0 (off := 0) (k := 6) rfl rfl)) (rv_tmp rfl) (Sub.refl' _) ?_
  refine ⟨b6, .inr ⟨by omega, h, rfl, hg, .inl ⟨?_, rfl, rfl⟩⟩⟩
  cases hq : (whyK s h r0 p0 h.ss.length) with
  | none => rfl
  | some u => rw [hq] at h87; cases h87
end Go.Proofs.YtbjijbbkfgcleaaDoor
namespace Go.Proofs.YtbjijbbkfgcleaaDoor
open Go.Gv
open Go.RowKit
open Go.Sn
open Sx
set_option maxRecDepth 100000 in
set_option maxHeartbeats 1000000 in
theorem far12_ok (h : Hd) (hhe : HdLe h) (w0 : World) (hH : HdIn h w0 []) : Sp Tryd.prog 10 [h.val] w0 [] (fun v L => ∃ b, v = .bool b ∧ L = []) := by
  have hks := hhe.k
  refine spec_enter Tryd.func10 rfl Tryd.ntmps10 rfl (Own.refl _) ?_
  simp only [argEnv]
  refine gc_seq <| gc_region <| gl_op (op_box rfl rfl rfl (fun b1 => ?_))
  refine gl_op <| op_rd rfl (rd_assign rfl) <| gl_nil <| gx_then <| gc_seq <| gc_seq <| gc_region <| gl_op <| op_rd rfl (rd_fieldAddr rfl (fa_31_0 _)) <| gl_op (op_rd rfl (rd_load Tryd.underlying28 rfl rfl (by exact ld_blk 0 rfl rfl)) ?_)
  refine gl_op <| op_rd rfl (rd_lenSlice Tryd.underlying28 rfl) <| gl_op (op_rd rfl (rd_gtr rfl rfl) (gk_dec (fun h7 => ?_) (fun h7 => ?_)))
  · refine gl_op <| op_rd rfl (rd_move rfl) <| gl_no rfl rfl rfl <| gl_no rfl rfl rfl <| gl_no rfl rfl rfl <| gl_no rfl rfl rfl <| gl_op <| op_rd rfl (rd_pick_t rfl rfl) <| gl_op <| op_rd rfl (rd_move rfl) <| gl_no rfl rfl rfl <| gl_no rfl rfl rfl <| gl_no rfl rfl rfl <| gl_no rfl rfl rfl <| gl_op <| op_rd rfl (rd_pick_t rfl rfl) <| gl_nil <| gx_then <| gc_cond_t rfl <| gc_seq <| gc_region <| gl_op <| op_rd rfl (rd_assign rfl) <| gl_nil <| gx_then <| gc_ret <| gx_then_ret <| gx_ret1 (.inl rfl) Tryd.results10 rfl [] (by decide) ?_
    exact ⟨_, rfl, rfl⟩
  refine gl_op <| op_rd rfl (rd_move rfl) <| gl_yes rfl rfl <| op_rd rfl (rd_fieldAddr rfl (fa_31_1 _)) <| gl_yes rfl rfl (op_rd rfl (rd_load Tryd.underlying29 rfl rfl (by exact ld_blk 0 rfl rfl)) ?_)
  refine gl_yes rfl rfl <| op_rd rfl (rd_lenSlice Tryd.underlying29 rfl) <| gl_yes rfl rfl (op_rd rfl (rd_gtr rfl rfl) (gk_dec (fun h12 => ?_) (fun h12 => ?_)))
  · refine gl_op <| op_rd rfl (rd_pick_f rfl rfl) <| gl_op <| op_rd rfl (rd_move rfl) <| gl_no rfl rfl rfl <| gl_no rfl rfl rfl <| gl_no rfl rfl rfl <| gl_no rfl rfl rfl <| gl_op <| op_rd rfl (rd_pick_t rfl rfl) <| gl_nil <| gx_then <| gc_cond_t rfl <| gc_seq <| gc_region <| gl_op <| op_rd rfl (rd_assign rfl) <| gl_nil <| gx_then <| gc_ret <| gx_then_ret <| gx_ret1 (.inl rfl) Tryd.results10 rfl [] (by decide) ?_
    exact ⟨_, rfl, rfl⟩
  refine gl_op <| op_rd rfl (rd_pick_f rfl rfl) <| gl_op <| op_rd rfl (rd_move rfl) <| gl_yes rfl rfl <| op_rd rfl (rd_fieldAddr rfl (fa_31_2 _)) <| gl_yes rfl rfl (op_rd rfl (rd_load Tryd.underlying29 rfl rfl (by exact ld_blk 0 rfl rfl)) ?_)
  refine gl_yes rfl rfl <| op_rd rfl (rd_lenSlice Tryd.underlying29 rfl) <| gl_yes rfl rfl (op_rd rfl (rd_gtr rfl rfl) (gk_dec (fun h18 => ?_) (fun h18 => ?_)))
  · refine gl_op <| op_rd rfl (rd_pick_f rfl rfl) <| gl_nil <| gx_then <| gc_cond_t rfl <| gc_seq <| gc_region <| gl_op <| op_rd rfl (rd_assign rfl) <| gl_nil <| gx_then <| gc_ret <| gx_then_ret <| gx_ret1 (.inl rfl) Tryd.results10 rfl [] (by decide) ?_
    exact ⟨_, rfl, rfl⟩
  refine gl_op <| op_rd rfl (rd_pick_f rfl rfl) <| gl_nil <| gx_then <| gc_cond_f rfl <| gc_skip <| gx_then <| gc_seq <| gc_seq <| gc_region <| gl_op <| op_rd rfl (rd_assign rfl) <| gl_nil <| gx_then <| gc_block <| gc_loopF (ι := Nat) [(1, _)] [_] (fun k => k ≤ h.ks.length) (fun k Fr0 => ((3, natV k) :: Fr0)) (fun k Fr0 => Fr0) (fun k => h.ks.length - k) 0 (Nat.zero_le _) ⟨rfl, rfl, trivial⟩ ⟨[0], by decide, rfl⟩ ?_
  rintro k hk
  refine gc_seq <| gc_seq <| gc_region <| gl_op <| op_rd rfl (rd_move rfl) <| gl_op <| op_rd rfl (rd_fieldAddr rfl (fa_31_0 _)) <| gl_op (op_rd rfl (rd_load Tryd.underlying28 rfl rfl (by exact ld_blk 0 rfl rfl)) ?_)
  refine gl_op <| op_rd rfl (rd_lenSlice Tryd.underlying28 rfl) <| gl_op (op_rd rfl (rd_lss rfl rfl) (gk_dec (fun h24 => ?_) (fun h24 => ?_)))
  · obtain ⟨r, hr⟩ := get_some (show k < h.ks.length by omega)
    refine gl_nil <| gx_then <| gc_cond_t rfl <| gc_skip <| gx_then <| gc_seq <| gc_block <| gc_seq <| gc_region <| gl_op <| op_rd rfl (rd_fieldAddr rfl (fa_31_0 _)) <| gl_op (op_rd rfl (rd_load Tryd.underlying28 rfl rfl (by exact ld_blk 0 rfl rfl)) ?_)
    refine gl_op <| op_rd rfl (rd_move rfl) <| gl_op (op_rd rfl (rd_indexOld1 hH.k Tryd.underlying28 ty_29 rfl rfl (by omega) (by omega)) ?_)
    refine gl_op <| op_rd rfl (rd_load Tryd.underlying29 rfl rfl (ld_slN hH.k (get_row hr))) <| gl_op <| op_rd rfl (rd_lenSlice Tryd.underlying29 rfl) <| gl_op (op_rd rfl (rd_gtr rfl rfl) (gk_dec (fun h33 => ?_) (fun h33 => ?_)))
    · refine gl_nil <| gx_then <| gc_cond_t rfl <| gc_seq <| gc_region <| gl_op <| op_rd rfl (rd_assign rfl) <| gl_nil <| gx_then <| gc_ret <| gx_block_ret <| gx_then_ret <| gx_then_ret <| gx_block_ret <| gx_then_ret <| gx_ret1 (.inl rfl) Tryd.results10 rfl [] (by decide) ?_
      exact ⟨_, rfl, rfl⟩
    refine gl_nil <| gx_then <| gc_cond_f rfl <| gc_skip <| gx_block <| gx_then <| gc_region <| gl_op <| op_rd rfl (rd_move rfl) <| gl_op (op_rd rfl (by exact rd_addN (b := 1) rfl rfl (by omega)) ?_)
    refine gl_op <| op_rd rfl (rd_assign rfl) <| gl_nil <| gx_then ?_
    exact gx_cut (k + 1) ⟨by omega, by omega⟩ ⟨rfl, rfl, trivial⟩ ⟨[0], by decide, rfl⟩
  refine gl_nil <| gx_then <| gc_cond_f rfl <| gc_exit <| gx_then_exit <| gx_then_exit <| gx_block_exit <| gx_then <| gc_seq <| gc_region <| gl_op <| op_rd rfl (rd_assign rfl) <| gl_nil <| gx_then <| gc_ret <| gx_ret1 (.inl rfl) Tryd.results10 rfl [] (by decide) ?_
  exact ⟨_, rfl, rfl⟩
set_option maxRecDepth 100000 in
set_option maxHeartbeats 1000000 in
theorem far10_ok (s : Org) (hle : OrgLe s) (w0 : World) (hS : OrgIn s w0 []) : Sp Tryd.prog 9 [s.val] w0 [] (fun v L => ∃ b, v = .bool b ∧ L = []) := by
  have h1 := hle.d
  have h2 := hle.r
  have h3 := hle.t
  have h4 := hle.c
  refine spec_enter Tryd.func9 rfl Tryd.ntmps9 rfl (Own.refl _) ?_
  simp only [argEnv]
  refine gc_seq <| gc_region <| gl_op (op_box rfl rfl rfl (fun b1 => ?_))
  refine gl_op <| op_rd rfl (rd_assign rfl) <| gl_nil <| gx_then <| gc_seq <| gc_seq <| gc_region <| gl_op <| op_rd rfl (rd_fieldAddr rfl (fa_27_0 _)) <| gl_op (op_rd rfl (rd_load Tryd.underlying22 rfl rfl (by exact ld_blk 0 rfl rfl)) ?_)
  refine gl_op <| op_rd rfl (rd_lenSlice Tryd.underlying22 rfl) <| gl_op (op_rd rfl (rd_gtr rfl rfl) (gk_dec (fun h11 => ?_) (fun h11 => ?_)))
  · refine gl_op <| op_rd rfl (rd_move rfl) <| gl_no rfl rfl rfl <| gl_no rfl rfl rfl <| gl_no rfl rfl rfl <| gl_no rfl rfl rfl <| gl_op <| op_rd rfl (rd_pick_t rfl rfl) <| gl_op <| op_rd rfl (rd_move rfl) <| gl_no rfl rfl rfl <| gl_no rfl rfl rfl <| gl_no rfl rfl rfl <| gl_no rfl rfl rfl <| gl_op <| op_rd rfl (rd_pick_t rfl rfl) <| gl_op <| op_rd rfl (rd_move rfl) <| gl_no rfl rfl rfl <| gl_no rfl rfl rfl <| gl_no rfl rfl rfl <| gl_no rfl rfl rfl <| gl_op <| op_rd rfl (rd_pick_t rfl rfl) <| gl_nil <| gx_then <| gc_cond_t rfl <| gc_seq <| gc_region <| gl_op <| op_rd rfl (rd_assign rfl) <| gl_nil ?_
    refine gx_then <| gc_ret <| gx_then_ret <| gx_ret1 (.inl rfl) Tryd.results9 rfl [] (by decide) ?_
    exact ⟨_, rfl, rfl⟩
  refine gl_op <| op_rd rfl (rd_move rfl) <| gl_yes rfl rfl <| op_rd rfl (rd_fieldAddr rfl (fa_27_1 _)) <| gl_yes rfl rfl (op_rd rfl (rd_load Tryd.underlying23 rfl rfl (by exact ld_blk 0 rfl rfl)) ?_)
  refine gl_yes rfl rfl <| op_rd rfl (rd_lenSlice Tryd.underlying23 rfl) <| gl_yes rfl rfl (op_rd rfl (rd_gtr rfl rfl) (gk_dec (fun h16 => ?_) (fun h16 => ?_)))
  · refine gl_op <| op_rd rfl (rd_pick_f rfl rfl) <| gl_op <| op_rd rfl (rd_move rfl) <| gl_no rfl rfl rfl <| gl_no rfl rfl rfl <| gl_no rfl rfl rfl <| gl_no rfl rfl rfl <| gl_op <| op_rd rfl (rd_pick_t rfl rfl) <| gl_op <| op_rd rfl (rd_move rfl) <| gl_no rfl rfl rfl <| gl_no rfl rfl rfl <| gl_no rfl rfl rfl <| gl_no rfl rfl rfl <| gl_op <| op_rd rfl (rd_pick_t rfl rfl) <| gl_nil <| gx_then <| gc_cond_t rfl <| gc_seq <| gc_region <| gl_op <| op_rd rfl (rd_assign rfl) <| gl_nil <| gx_then <| gc_ret <| gx_then_ret <| gx_ret1 (.inl rfl) Tryd.results9 rfl [] (by decide) ?_
    exact ⟨_, rfl, rfl⟩
  refine gl_op <| op_rd rfl (rd_pick_f rfl rfl) <| gl_op <| op_rd rfl (rd_move rfl) <| gl_yes rfl rfl <| op_rd rfl (rd_fieldAddr rfl (fa_27_2 _)) <| gl_yes rfl rfl (op_rd rfl (rd_load Tryd.underlying24 rfl rfl (by exact ld_blk 0 rfl rfl)) ?_)
  refine gl_yes rfl rfl <| op_rd rfl (rd_lenSlice Tryd.underlying24 rfl) <| gl_yes rfl rfl (op_rd rfl (rd_gtr rfl rfl) (gk_dec (fun h22 => ?_) (fun h22 => ?_)))
  · refine gl_op <| op_rd rfl (rd_pick_f rfl rfl) <| gl_op <| op_rd rfl (rd_move rfl) <| gl_no rfl rfl rfl <| gl_no rfl rfl rfl <| gl_no rfl rfl rfl <| gl_no rfl rfl rfl <| gl_op <| op_rd rfl (rd_pick_t rfl rfl) <| gl_nil <| gx_then <| gc_cond_t rfl <| gc_seq <| gc_region <| gl_op <| op_rd rfl (rd_assign rfl) <| gl_nil <| gx_then <| gc_ret <| gx_then_ret <| gx_ret1 (.inl rfl) Tryd.results9 rfl [] (by decide) ?_
    exact ⟨_, rfl, rfl⟩
  refine gl_op <| op_rd rfl (rd_pick_f rfl rfl) <| gl_op <| op_rd rfl (rd_move rfl) <| gl_yes rfl rfl <| op_rd rfl (rd_fieldAddr rfl (fa_27_3 _)) <| gl_yes rfl rfl (op_rd rfl (rd_load Tryd.underlying25 rfl rfl (by exact ld_blk 0 rfl rfl)) ?_)
  refine gl_yes rfl rfl <| op_rd rfl (rd_lenSlice Tryd.underlying25 rfl) <| gl_yes rfl rfl (op_rd rfl (rd_gtr rfl rfl) (gk_dec (fun h28 => ?_) (fun h28 => ?_)))
  · refine gl_op <| op_rd rfl (rd_pick_f rfl rfl) <| gl_nil <| gx_then <| gc_cond_t rfl <| gc_seq <| gc_region <| gl_op <| op_rd rfl (rd_assign rfl) <| gl_nil <| gx_then <| gc_ret <| gx_then_ret <| gx_ret1 (.inl rfl) Tryd.results9 rfl [] (by decide) ?_
    exact ⟨_, rfl, rfl⟩
  refine gl_op <| op_rd rfl (rd_pick_f rfl rfl) <| gl_nil <| gx_then <| gc_cond_f rfl <| gc_skip <| gx_then <| gc_seq <| gc_region <| gl_op <| op_rd rfl (rd_assign rfl) <| gl_nil <| gx_then <| gc_seq <| gc_seq <| gc_region <| gl_op <| op_rd rfl (rd_assign rfl) <| gl_nil <| gx_then <| gc_block <| gc_loopF (ι := Nat × Bool) [(1, _)] [_] (fun q => q.1 ≤ s.ds.length) (fun q Fr0 => ((3, .bool q.2) :: (4, natV q.1) :: Fr0)) (fun q Fr0 => Fr0) (fun q => s.ds.length - q.1) (0, false) (Nat.zero_le _) ⟨rfl, rfl, rfl, trivial⟩ ⟨[0], by decide, rfl⟩ ?_
  rintro ⟨k, bb⟩ hk
  simp only at hk ⊢
  refine gc_seq <| gc_seq <| gc_region <| gl_op <| op_rd rfl (rd_move rfl) <| gl_op <| op_rd rfl (rd_fieldAddr rfl (fa_27_0 _)) <| gl_op (op_rd rfl (rd_load Tryd.underlying22 rfl rfl (by exact ld_blk 0 rfl rfl)) ?_)
  refine gl_op <| op_rd rfl (rd_lenSlice Tryd.underlying22 rfl) <| gl_op (op_rd rfl (rd_lss rfl rfl) (gk_dec (fun h34 => ?_) (fun h34 => ?_)))
  · obtain ⟨x, hx⟩ := get_some (show k < s.ds.length by omega)
    refine gl_nil <| gx_then <| gc_cond_t rfl <| gc_skip <| gx_then <| gc_seq <| gc_block <| gc_region <| gl_op <| op_rd rfl (rd_move rfl) <| gl_op <| op_rd rfl (rd_move rfl) <| gk_bool (fun hb38 => ?_) (fun hb38 => ?_)
    · refine gl_no rfl rfl rfl <| gl_no rfl rfl rfl <| gl_no rfl rfl rfl <| gl_no rfl rfl rfl <| gl_no rfl rfl rfl <| gl_no rfl rfl rfl <| gl_no rfl rfl rfl <| gl_no rfl rfl rfl <| gl_op <| op_rd rfl (rd_pick_t rfl rfl) <| gl_op <| op_rd rfl (rd_assign rfl) <| gl_nil <| gx_block <| gx_then <| gc_region <| gl_op <| op_rd rfl (rd_move rfl) <| gl_op (op_rd rfl (by exact rd_addN (b := 1) rfl rfl (by omega)) ?_)
      refine gl_op <| op_rd rfl (rd_assign rfl) <| gl_nil <| gx_then ?_
      exact gx_cut ((k + 1, _)) ⟨by simp only; omega, by simp only; omega⟩ ⟨rfl, rfl, rfl, trivial⟩ ⟨[0], by decide, rfl⟩
    refine gl_yes rfl rfl <| op_rd rfl (rd_fieldAddr rfl (fa_27_0 _)) <| gl_yes rfl rfl (op_rd rfl (rd_load Tryd.underlying22 rfl rfl (by exact ld_blk 0 rfl rfl)) ?_)
    refine gl_yes rfl rfl <| op_rd rfl (rd_move rfl) <| gl_yes rfl rfl (op_rd rfl (rd_indexOld hS.d Tryd.underlying22 ty_65 rfl rfl (by omega) (by omega)) ?_)
    refine gl_yes rfl rfl <| op_rd rfl (rd_fieldAddr rfl (fa_65_0 _)) <| gl_yes rfl rfl (op_rd rfl (rd_load Tryd.underlying9 rfl rfl (ld_slf hS.d (get_flat Dv.cells 3 (fun _ => rfl) hx (j := 0) (by decide) rfl))) ?_)
    refine gl_yes rfl rfl <| op_rd rfl (rd_lenString Tryd.underlying9 rfl) <| gl_yes rfl rfl <| op_rd rfl (rd_gtr rfl rfl) <| gl_op <| op_rd rfl (rd_pick_f rfl rfl) <| gl_op <| op_rd rfl (rd_assign rfl) <| gl_nil <| gx_block <| gx_then <| gc_region <| gl_op <| op_rd rfl (rd_move rfl) <| gl_op (op_rd rfl (by exact rd_addN (b := 1) rfl rfl (by omega)) ?_)
    refine gl_op <| op_rd rfl (rd_assign rfl) <| gl_nil <| gx_then ?_
    exact gx_cut ((k + 1, _)) ⟨by simp only; omega, by simp only; omega⟩ ⟨rfl, rfl, rfl, trivial⟩ ⟨[0], by decide, rfl⟩
  refine gl_nil <| gx_then <| gc_cond_f rfl <| gc_exit <| gx_then_exit <| gx_then_exit <| gx_block_exit <| gx_then <| gc_seq <| gc_seq <| gc_region <| gl_op <| op_rd rfl (rd_assign rfl) <| gl_nil <| gx_then <| gc_block <| gc_loopF (ι := Nat × Bool) [(1, _)] [_] (fun q => q.1 ≤ s.rs.length) (fun q Fr0 => ((3, .bool q.2) :: (5, natV q.1) :: Fr0)) (fun q Fr0 => Fr0) (fun q => s.rs.length - q.1) (0, _) (Nat.zero_le _) ⟨rfl, rfl, rfl, trivial⟩ ⟨[0], by decide, rfl⟩ ?_
  rintro ⟨k, bb⟩ hk
  simp only at hk ⊢
  refine gc_seq <| gc_seq <| gc_region <| gl_op <| op_rd rfl (rd_move rfl) <| gl_op <| op_rd rfl (rd_fieldAddr rfl (fa_27_1 _)) <| gl_op (op_rd rfl (rd_load Tryd.underlying23 rfl rfl (by exact ld_blk 0 rfl rfl)) ?_)
  refine gl_op <| op_rd rfl (rd_lenSlice Tryd.underlying23 rfl) <| gl_op (op_rd rfl (rd_lss rfl rfl) (gk_dec (fun h52 => ?_) (fun h52 => ?_)))
  · obtain ⟨x, hx⟩ := get_some (show k < s.rs.length by omega)
    refine gl_nil <| gx_then <| gc_cond_t rfl <| gc_skip <| gx_then <| gc_seq <| gc_block <| gc_region <| gl_op <| op_rd rfl (rd_move rfl) <| gl_op <| op_rd rfl (rd_move rfl) <| gk_bool (fun hb56 => ?_) (fun hb56 => ?_)
    · refine gl_no rfl rfl rfl <| gl_no rfl rfl rfl <| gl_no rfl rfl rfl <| gl_no rfl rfl rfl <| gl_no rfl rfl rfl <| gl_no rfl rfl rfl <| gl_no rfl rfl rfl <| gl_no rfl rfl rfl <| gl_op <| op_rd rfl (rd_pick_t rfl rfl) <| gl_op <| op_rd rfl (rd_assign rfl) <| gl_nil <| gx_block <| gx_then <| gc_region <| gl_op <| op_rd rfl (rd_move rfl) <| gl_op (op_rd rfl (by exact rd_addN (b := 1) rfl rfl (by omega)) ?_)
      refine gl_op <| op_rd rfl (rd_assign rfl) <| gl_nil <| gx_then ?_
      exact gx_cut ((k + 1, _)) ⟨by simp only; omega, by simp only; omega⟩ ⟨rfl, rfl, rfl, trivial⟩ ⟨[0], by decide, rfl⟩
    refine gl_yes rfl rfl <| op_rd rfl (rd_fieldAddr rfl (fa_27_1 _)) <| gl_yes rfl rfl (op_rd rfl (rd_load Tryd.underlying23 rfl rfl (by exact ld_blk 0 rfl rfl)) ?_)
    refine gl_yes rfl rfl <| op_rd rfl (rd_move rfl) <| gl_yes rfl rfl (op_rd rfl (rd_indexOld hS.r Tryd.underlying23 ty_81 rfl rfl (by omega) (by omega)) ?_)
    refine gl_yes rfl rfl <| op_rd rfl (rd_fieldAddr rfl (fa_81_0 _)) <| gl_yes rfl rfl (op_rd rfl (rd_load Tryd.underlying9 rfl rfl (ld_slf hS.r (get_flat Rk.cells 6 (fun _ => rfl) hx (j := 0) (by decide) rfl))) ?_)
    refine gl_yes rfl rfl <| op_rd rfl (rd_lenString Tryd.underlying9 rfl) <| gl_yes rfl rfl <| op_rd rfl (rd_gtr rfl rfl) <| gl_op <| op_rd rfl (rd_pick_f rfl rfl) <| gl_op <| op_rd rfl (rd_assign rfl) <| gl_nil <| gx_block <| gx_then <| gc_region <| gl_op <| op_rd rfl (rd_move rfl) <| gl_op (op_rd rfl (by exact rd_addN (b := 1) rfl rfl (by omega)) ?_)
    refine gl_op <| op_rd rfl (rd_assign rfl) <| gl_nil <| gx_then ?_
    exact gx_cut ((k + 1, _)) ⟨by simp only; omega, by simp only; omega⟩ ⟨rfl, rfl, rfl, trivial⟩ ⟨[0], by decide, rfl⟩
  refine gl_nil <| gx_then <| gc_cond_f rfl <| gc_exit <| gx_then_exit <| gx_then_exit <| gx_block_exit <| gx_then <| gc_seq <| gc_seq <| gc_region <| gl_op <| op_rd rfl (rd_assign rfl) <| gl_nil <| gx_then <| gc_block <| gc_loopF (ι := Nat × Bool) [(1, _)] [_] (fun q => q.1 ≤ s.ss.length) (fun q Fr0 => ((3, .bool q.2) :: (6, natV q.1) :: Fr0)) (fun q Fr0 => Fr0) (fun q => s.ss.length - q.1) (0, _) (Nat.zero_le _) ⟨rfl, rfl, rfl, trivial⟩ ⟨[0], by decide, rfl⟩ ?_
  rintro ⟨k, bb⟩ hk
  simp only at hk ⊢
  refine gc_seq <| gc_seq <| gc_region <| gl_op <| op_rd rfl (rd_move rfl) <| gl_op <| op_rd rfl (rd_fieldAddr rfl (fa_27_2 _)) <| gl_op (op_rd rfl (rd_load Tryd.underlying24 rfl rfl (by exact ld_blk 0 rfl rfl)) ?_)
  refine gl_op <| op_rd rfl (rd_lenSlice Tryd.underlying24 rfl) <| gl_op (op_rd rfl (rd_lss rfl rfl) (gk_dec (fun h70 => ?_) (fun h70 => ?_)))
  · obtain ⟨x, hx⟩ := get_some (show k < s.ss.length by omega)
    refine gl_nil <| gx_then <| gc_cond_t rfl <| gc_skip <| gx_then <| gc_seq <| gc_block <| gc_region <| gl_op <| op_rd rfl (rd_move rfl) <| gl_op <| op_rd rfl (rd_move rfl) <| gk_bool (fun hb74 => ?_) (fun hb74 => ?_)
    · refine gl_no rfl rfl rfl <| gl_no rfl rfl rfl <| gl_no rfl rfl rfl <| gl_no rfl rfl rfl <| gl_no rfl rfl rfl <| gl_no rfl rfl rfl <| gl_no rfl rfl rfl <| gl_no rfl rfl rfl <| gl_op <| op_rd rfl (rd_pick_t rfl rfl) <| gl_op <| op_rd rfl (rd_move rfl) <| gl_no rfl rfl rfl <| gl_no rfl rfl rfl <| gl_no rfl rfl rfl <| gl_no rfl rfl rfl <| gl_no rfl rfl rfl <| gl_no rfl rfl rfl <| gl_no rfl rfl rfl <| gl_no rfl rfl rfl <| gl_op <| op_rd rfl (rd_pick_t rfl rfl) <| gl_op <| op_rd rfl (rd_assign rfl) <| gl_nil <| gx_block <| gx_then <| gc_region <| gl_op <| op_rd rfl (rd_move rfl) ?_
      refine gl_op (op_rd rfl (by exact rd_addN (b := 1) rfl rfl (by omega)) ?_)
      refine gl_op <| op_rd rfl (rd_assign rfl) <| gl_nil <| gx_then ?_
      exact gx_cut ((k + 1, _)) ⟨by simp only; omega, by simp only; omega⟩ ⟨rfl, rfl, rfl, trivial⟩ ⟨[0], by decide, rfl⟩
    refine gl_yes rfl rfl <| op_rd rfl (rd_fieldAddr rfl (fa_27_2 _)) <| gl_yes rfl rfl (op_rd rfl (rd_load Tryd.underlying24 rfl rfl (by exact ld_blk 0 rfl rfl)) ?_)
    refine gl_yes rfl rfl <| op_rd rfl (rd_move rfl) <| gl_yes rfl rfl (op_rd rfl (rd_indexOld hS.t Tryd.underlying24 ty_57 rfl rfl (by omega) (by omega)) ?_)
    refine gl_yes rfl rfl <| op_rd rfl (rd_fieldAddr rfl (fa_57_0 _)) <| gl_yes rfl rfl (op_rd rfl (rd_load Tryd.underlying9 rfl rfl (ld_slf hS.t (get_flat St.cells 5 (fun _ => rfl) hx (j := 0) (by decide) rfl))) ?_)
    refine gl_yes rfl rfl <| op_rd rfl (rd_lenString Tryd.underlying9 rfl) <| gl_yes rfl rfl (op_rd rfl (rd_gtr rfl rfl) (gk_dec (fun h82 => ?_) (fun h82 => ?_)))
    · refine gl_op <| op_rd rfl (rd_pick_f rfl rfl) <| gl_op <| op_rd rfl (rd_move rfl) <| gl_no rfl rfl rfl <| gl_no rfl rfl rfl <| gl_no rfl rfl rfl <| gl_no rfl rfl rfl <| gl_no rfl rfl rfl <| gl_no rfl rfl rfl <| gl_no rfl rfl rfl <| gl_no rfl rfl rfl <| gl_op <| op_rd rfl (rd_pick_t rfl rfl) <| gl_op <| op_rd rfl (rd_assign rfl) <| gl_nil <| gx_block <| gx_then <| gc_region <| gl_op <| op_rd rfl (rd_move rfl) <| gl_op (op_rd rfl (by exact rd_addN (b := 1) rfl rfl (by omega)) ?_)
      refine gl_op <| op_rd rfl (rd_assign rfl) <| gl_nil <| gx_then ?_
      exact gx_cut ((k + 1, _)) ⟨by simp only; omega, by simp only; omega⟩ ⟨rfl, rfl, rfl, trivial⟩ ⟨[0], by decide, rfl⟩
    refine gl_op <| op_rd rfl (rd_pick_f rfl rfl) <| gl_op <| op_rd rfl (rd_move rfl) <| gl_yes rfl rfl <| op_rd rfl (rd_fieldAddr rfl (fa_27_2 _)) <| gl_yes rfl rfl (op_rd rfl (rd_load Tryd.underlying24 rfl rfl (by exact ld_blk 0 rfl rfl)) ?_)
    refine gl_yes rfl rfl <| op_rd rfl (rd_move rfl) <| gl_yes rfl rfl (op_rd rfl (rd_indexOld hS.t Tryd.underlying24 ty_57 rfl rfl (by omega) (by omega)) ?_)
    refine gl_yes rfl rfl <| op_rd rfl (rd_fieldAddr rfl (fa_57_3 _)) <| gl_yes rfl rfl (op_rd rfl (rd_load Tryd.underlying55 rfl rfl (ld_slf hS.t (get_flat St.cells 5 (fun _ => rfl) hx (j := 4) (by decide) rfl))) ?_)
    refine gl_yes rfl rfl <| op_rd rfl (rd_lenSlice Tryd.underlying55 rfl) <| gl_yes rfl rfl <| op_rd rfl (rd_gtr rfl rfl) <| gl_op <| op_rd rfl (rd_pick_f rfl rfl) <| gl_op <| op_rd rfl (rd_assign rfl) <| gl_nil <| gx_block <| gx_then <| gc_region <| gl_op <| op_rd rfl (rd_move rfl) <| gl_op (op_rd rfl (by exact rd_addN (b := 1) rfl rfl (by omega)) ?_)
    refine gl_op <| op_rd rfl (rd_assign rfl) <| gl_nil <| gx_then ?_
    exact gx_cut ((k + 1, _)) ⟨by simp only; omega, by simp only; omega⟩ ⟨rfl, rfl, rfl, trivial⟩ ⟨[0], by decide, rfl⟩
  refine gl_nil <| gx_then <| gc_cond_f rfl <| gc_exit <| gx_then_exit <| gx_then_exit <| gx_block_exit <| gx_then <| gc_seq <| gc_seq <| gc_region <| gl_op <| op_rd rfl (rd_assign rfl) <| gl_nil <| gx_then <| gc_block <| gc_loopF (ι := Nat × Bool) [(1, _)] [_] (fun q => q.1 ≤ s.cs.length) (fun q Fr0 => ((3, .bool q.2) :: (7, natV q.1) :: Fr0)) (fun q Fr0 => Fr0) (fun q => s.cs.length - q.1) (0, _) (Nat.zero_le _) ⟨rfl, rfl, rfl, trivial⟩ ⟨[0], by decide, rfl⟩ ?_
  rintro ⟨k, bb⟩ hk
  simp only at hk ⊢
  refine gc_seq <| gc_seq <| gc_region <| gl_op <| op_rd rfl (rd_move rfl) <| gl_op <| op_rd rfl (rd_fieldAddr rfl (fa_27_3 _)) <| gl_op (op_rd rfl (rd_load Tryd.underlying25 rfl rfl (by exact ld_blk 0 rfl rfl)) ?_)
  refine gl_op <| op_rd rfl (rd_lenSlice Tryd.underlying25 rfl) <| gl_op (op_rd rfl (rd_lss rfl rfl) (gk_dec (fun h98 => ?_) (fun h98 => ?_)))
  · obtain ⟨x, hx⟩ := get_some (show k < s.cs.length by omega)
    refine gl_nil <| gx_then <| gc_cond_t rfl <| gc_skip <| gx_then <| gc_seq <| gc_block <| gc_region <| gl_op <| op_rd rfl (rd_move rfl) <| gl_op <| op_rd rfl (rd_move rfl) <| gk_bool (fun hb102 => ?_) (fun hb102 => ?_)
    · refine gl_no rfl rfl rfl <| gl_no rfl rfl rfl <| gl_no rfl rfl rfl <| gl_no rfl rfl rfl <| gl_no rfl rfl rfl <| gl_no rfl rfl rfl <| gl_no rfl rfl rfl <| gl_no rfl rfl rfl <| gl_op <| op_rd rfl (rd_pick_t rfl rfl) <| gl_op <| op_rd rfl (rd_assign rfl) <| gl_nil <| gx_block <| gx_then <| gc_region <| gl_op <| op_rd rfl (rd_move rfl) <| gl_op (op_rd rfl (by exact rd_addN (b := 1) rfl rfl (by omega)) ?_)
      refine gl_op <| op_rd rfl (rd_assign rfl) <| gl_nil <| gx_then ?_
      exact gx_cut ((k + 1, _)) ⟨by simp only; omega, by simp only; omega⟩ ⟨rfl, rfl, rfl, trivial⟩ ⟨[0], by decide, rfl⟩
    refine gl_yes rfl rfl <| op_rd rfl (rd_fieldAddr rfl (fa_27_3 _)) <| gl_yes rfl rfl (op_rd rfl (rd_load Tryd.underlying25 rfl rfl (by exact ld_blk 0 rfl rfl)) ?_)
    refine gl_yes rfl rfl <| op_rd rfl (rd_move rfl) <| gl_yes rfl rfl (op_rd rfl (rd_indexOld hS.c Tryd.underlying25 ty_67 rfl rfl (by omega) (by omega)) ?_)
    refine gl_yes rfl rfl <| op_rd rfl (rd_fieldAddr rfl (fa_67_0 _)) <| gl_yes rfl rfl (op_rd rfl (rd_load Tryd.underlying9 rfl rfl (ld_slf hS.c (get_flat Cp.cells 6 (fun _ => rfl) hx (j := 0) (by decide) rfl))) ?_)
    refine gl_yes rfl rfl <| op_rd rfl (rd_lenString Tryd.underlying9 rfl) <| gl_yes rfl rfl <| op_rd rfl (rd_gtr rfl rfl) <| gl_op <| op_rd rfl (rd_pick_f rfl rfl) <| gl_op <| op_rd rfl (rd_assign rfl) <| gl_nil <| gx_block <| gx_then <| gc_region <| gl_op <| op_rd rfl (rd_move rfl) <| gl_op (op_rd rfl (by exact rd_addN (b := 1) rfl rfl (by omega)) ?_)
    refine gl_op <| op_rd rfl (rd_assign rfl) <| gl_nil <| gx_then ?_
    exact gx_cut ((k + 1, _)) ⟨by simp only; omega, by simp only; omega⟩ ⟨rfl, rfl, rfl, trivial⟩ ⟨[0], by decide, rfl⟩
  refine gl_nil <| gx_then <| gc_cond_f rfl <| gc_exit <| gx_then_exit <| gx_then_exit <| gx_block_exit <| gx_then <| gc_seq <| gc_region <| gl_op <| op_rd rfl (rd_move rfl) <| gl_op <| op_rd rfl (rd_assign rfl) <| gl_nil <| gx_then <| gc_ret <| gx_ret1 (.inl rfl) Tryd.results9 rfl [] (by decide) ?_
  exact ⟨_, rfl, rfl⟩
end Go.Proofs.YtbjijbbkfgcleaaDoor
namespace Go.Proofs.YtbjijbbkfgcleaaDoor
open Go.Gv
open Go.RowKit
open Go.Sn
open Sx
set_option maxRecDepth 100000 in
set_option maxHeartbeats 1000000 in
theorem ex10_ok (w0 : World) : Sp Tryd.prog 46 [] w0 [] (fun v L => ∃ b0 b6 b11 b14 b18 b22 b24 b26, v = (ex10 b6 b11 b14 b18 b22 b24 b26).val ∧ L = [.blk b0 (ex10 b6 b11 b14 b18 b22 b24 b26).cells 27, .row 67 6 (some b26) 1 1 (exC1.flatMap Cp.cells), .row 57 5 (some b24) 3 3 ((exSs b14 b18 b22).flatMap St.cells), .row 107 4 (some b22) 1 1 (exP3.flatMap Pt.cells), .row 107 4 (some b18) 1 1 (exP2.flatMap Pt.cells), .row 107 4 (some b14) 1 1 (exP1.flatMap Pt.cells), .row 81 6 (some b11) 2 2 (exRs.flatMap Rk.cells), .row 65 3 (some b6) 1 1 (exDs.flatMap Dv.cells)]) := by
  refine spec_enter Tryd.func46 rfl Tryd.ntmps46 rfl (Own.refl _) ?_
  simp only [argEnv]
  refine gc_seq <| gc_region <| gl_op (op_alloc ty_27 rfl rfl (fun b0 => ?_))
  refine gl_nil <| gx_then <| gc_seq <| gc_region <| gl_op (op_rd rfl (rd_build rfl (fun _ => bd_54_0_1 _ _)) ?_)
  refine gl_op (op_rd rfl (rd_build rfl (fun _ => bd_54_0_1 _ _)) ?_)
  refine gl_op (op_alloc ty_54 rfl rfl (fun b1 => ?_))
  refine gl_op (op_alloc ty_54 rfl rfl (fun b2 => ?_))
  refine gl_op (op_storeAgg 1 ty_54 rfl rfl rfl rfl rfl rfl (by rfl) ?_)
  refine gl_op (op_storeAgg 0 ty_54 rfl rfl rfl rfl rfl rfl (by rfl) ?_)
  refine gl_nil <| gx_then <| gc_seq <| gc_region <| gl_op (op_rd rfl (rd_build rfl (fun _ => bd_65_0_1_2 _ _ _)) ?_)
  refine gl_op (op_buildSlice (sz := 3) rfl rfl (fun _ => bs_22_1_0 _ _ _) rfl rfl (fun b6 => ?_))
  refine gl_op (op_rd rfl (rd_loadAgg Tryd.underlying54 rfl ty_54 rfl (by exact cs_blk 2 (off := 0) (k := 2) rfl rfl) rfl) ?_)
  refine gl_op (op_rd rfl (rd_build rfl (fun _ => bd_81_0_1_2_3_4 _ _ _ _ _ _)) ?_)
  refine gl_op (op_rd rfl (rd_loadAgg Tryd.underlying54 rfl ty_54 rfl (by exact cs_blk 2 (off := 0) (k := 2) rfl rfl) rfl) ?_)
  refine gl_op (op_rd rfl (rd_build rfl (fun _ => bd_81_0_1_2_3_4 _ _ _ _ _ _)) ?_)
  refine gl_op (op_buildSlice (sz := 6) rfl rfl (fun _ => bs_23_2_0_1 _ _ _ _ _ _ _ _ _ _ _ _) rfl rfl (fun b11 => ?_))
  refine gl_op (op_rd rfl (rd_loadAgg Tryd.underlying54 rfl ty_54 rfl (by exact cs_blk 3 (off := 0) (k := 2) rfl rfl) rfl) ?_)
  refine gl_op (op_rd rfl (rd_build rfl (fun _ => bd_107_2_3 _ _)) ?_)
  refine gl_op (op_buildSlice (sz := 4) rfl rfl (fun _ => bs_55_1_0 _ _ _ _) rfl rfl (fun b14 => ?_))
  refine gl_op (op_rd rfl (rd_build rfl (fun _ => bd_57_0_2_3 _ _ _ _ _ _)) ?_)
  refine gl_op (op_rd rfl (rd_loadAgg Tryd.underlying54 rfl ty_54 rfl (by exact cs_blk 3 (off := 0) (k := 2) rfl rfl) rfl) ?_)
  refine gl_op (op_rd rfl (rd_build rfl (fun _ => bd_107_1_2_3 _ _ _)) ?_)
  refine gl_op (op_buildSlice (sz := 4) rfl rfl (fun _ => bs_55_1_0 _ _ _ _) rfl rfl (fun b18 => ?_))
  refine gl_op (op_rd rfl (rd_build rfl (fun _ => bd_57_0_2_3 _ _ _ _ _ _)) ?_)
  refine gl_op (op_rd rfl (rd_loadAgg Tryd.underlying54 rfl ty_54 rfl (by exact cs_blk 5 (off := 0) (k := 2) rfl rfl) rfl) ?_)
  refine gl_op (op_rd rfl (rd_build rfl (fun _ => bd_107_0_2_3 _ _ _)) ?_)
  refine gl_op (op_buildSlice (sz := 4) rfl rfl (fun _ => bs_55_1_0 _ _ _ _) rfl rfl (fun b22 => ?_))
  refine gl_op (op_rd rfl (rd_build rfl (fun _ => bd_57_0_2_3 _ _ _ _ _ _)) ?_)
  refine gl_op (op_buildSlice (sz := 5) rfl rfl (fun _ => bs_24_3_0_1_2 _ _ _ _ _ _ _ _ _ _ _ _ _ _ _ _ _ _ _ _ _) rfl rfl (fun b24 => ?_))
  refine gl_op (op_rd rfl (rd_build rfl (fun _ => bd_67_0_3 _ _)) ?_)
  refine gl_op (op_buildSlice (sz := 6) rfl rfl (fun _ => bs_25_1_0 _ _ _ _ _ _) rfl rfl (fun b26 => ?_))
  refine gl_op (op_rd rfl (rd_build rfl (fun _ => bd_27_0_1_2_3 _ _ _ _ _ _ _ _ _ _ _ _)) ?_)
  refine gl_op (op_storeAgg 9 ty_27 rfl rfl rfl rfl rfl rfl (by rfl) ?_)
  refine gl_nil <| gx_then <| gc_ret <| gx_retV1 (.inl rfl) Tryd.results46 (rv_agg Tryd.underlying27 rfl ty_27 rfl (by rfl) (cs_blk 9 (off := 0) (k := 4) rfl rfl)) [9, 0, 1, 2, 3, 4, 5, 6] (by decide) ?_
  exact ⟨b0, b6, b11, b14, b18, b22, b24, b26, rfl, rfl⟩
set_option maxRecDepth 100000 in
set_option maxHeartbeats 1000000 in
theorem ex12_ok (w0 : World) : Sp Tryd.prog 27 [] w0 [] (fun v L => ∃ b0 b6 b11 b14 b18 b22 b24 r9 c9, v = (ex12 b6 b11 b14 b18 b22 b24 r9 c9).val ∧ L = [.blk b0 (ex12 b6 b11 b14 b18 b22 b24 r9 c9).cells 27, .row 67 6 r9 4 c9 (exC4.flatMap Cp.cells), .row 57 5 (some b24) 3 3 ((exSs b14 b18 b22).flatMap St.cells), .row 107 4 (some b22) 1 1 (exP3.flatMap Pt.cells), .row 107 4 (some b18) 1 1 (exP2.flatMap Pt.cells), .row 107 4 (some b14) 1 1 (exP1.flatMap Pt.cells), .row 81 6 (some b11) 2 2 (exRs.flatMap Rk.cells), .row 65 3 (some b6) 1 1 (exDs.flatMap Dv.cells)]) := by
  refine spec_enter Tryd.func27 rfl Tryd.ntmps27 rfl (Own.refl _) ?_
  simp only [argEnv]
  refine gc_seq <| gc_region <| gl_op (op_alloc ty_27 rfl rfl (fun b0 => ?_))
  refine gl_nil <| gx_then <| gc_seq <| gc_region <| gl_op (op_call rfl (vf := []) (vc := []) rfl rfl Tryd.call46 (fun w1 ho => ex10_ok w1) ?_)
  rintro _ _ ⟨b90, b6, b11, b14, b18, b22, b24, b26, rfl, rfl⟩
  simp only [Org.cells]
  refine gl_op (op_alloc ty_27 rfl rfl (fun b1 => ?_))
  refine gl_op (op_storeAgg 0 ty_27 rfl rfl rfl rfl rfl rfl (by rfl) ?_)
  refine gl_nil <| gx_then <| gc_seq <| gc_region <| gl_op <| op_rd rfl (rd_fieldAddr rfl (fa_27_3 _)) <| gl_op (op_rd rfl (rd_load Tryd.underlying25 rfl rfl (by exact ld_blk 0 rfl rfl)) ?_)
  refine gl_op (op_rd rfl (rd_build rfl (fun _ => bd_67_0_3 _ _)) ?_)
  refine gl_op (op_rd rfl (rd_build rfl (fun _ => bd_67_0_3_4 _ _ _)) ?_)
  refine gl_op (op_rd rfl (rd_build rfl (fun _ => bd_67_0_3_5 _ _ _)) ?_)
  refine gl_op (op_buildSlice (sz := 6) rfl rfl (fun _ => bs_25_3_0_1_2 _ _ _ _ _ _ _ _ _ _ _ _ _ _ _ _ _ _) rfl rfl (fun b8 => ?_))
  refine gl_op (op_appendRow 3 0 Tryd.underlying25 ty_67 rfl (by decide) rfl rfl rfl rfl rfl (by simp [Value.oneCell']) (by omega) (by omega) (fun _ => (by rfl)) (fun r9 c9 => ?_))
  refine gl_op <| op_rd rfl (rd_fieldAddr rfl (fa_27_3 _)) <| gl_op (op_store 1 ty_25 rfl rfl rfl rfl rfl (by rfl) (by rfl) ?_)
  refine gl_nil <| gx_then <| gc_seq <| gc_region <| gl_op (op_rd rfl (rd_loadAgg Tryd.underlying27 rfl ty_27 rfl (by exact cs_blk 1 (off := 0) (k := 4) rfl rfl) rfl) ?_)
  refine gl_op (op_storeAgg 10 ty_27 rfl rfl rfl rfl rfl rfl (by rfl) ?_)
  refine gl_nil <| gx_then <| gc_ret <| gx_retV1 (.inl rfl) Tryd.results27 (rv_agg Tryd.underlying27 rfl ty_27 rfl (by rfl) (cs_blk 10 (off := 0) (k := 4) rfl rfl)) [10, 3, 4, 5, 6, 7, 8, 9] (by decide) ?_
  exact ⟨b0, b6, b11, b14, b18, b22, b24, r9, c9, rfl, rfl⟩
end Go.Proofs.YtbjijbbkfgcleaaDoor
namespace Go.Proofs.YtbjijbbkfgcleaaDoor
open Go.Gv
open Go.RowKit
open Go.Sn
open Sx
set_option maxRecDepth 100000 in
set_option maxHeartbeats 1000000 in
theorem shown_ok (w0 : World) (hT : TabIn w0) : Sp Tryd.prog 11 [] w0 [] (RV (.bool true)) := by
  refine spec_enter Tryd.func11 rfl Tryd.ntmps11 rfl (Own.refl _) ?_
  simp only [argEnv]
  refine gc_seq <| gc_region <| gl_op <| op_rd rfl (rd_assign rfl) <| gl_nil <| gx_then <| gc_seq <| gc_region <| gl_op (op_buildSlice (sz := 1) rfl rfl (fun _ => bs_29_1_0 _) rfl rfl (fun b8 => ?_))
  refine gl_op (op_buildSlice (sz := 1) rfl rfl (fun _ => bs_28_1_0 _ _ _) rfl rfl (fun b9 => ?_))
  refine gl_op (op_buildSlice (sz := 1) rfl rfl (fun _ => bs_29_2_0_1 _ _) rfl rfl (fun b10 => ?_))
  refine gl_op (op_buildSlice (sz := 1) rfl rfl (fun _ => bs_29_2_0_1 _ _) rfl rfl (fun b11 => ?_))
  refine gl_op (op_rd rfl (rd_build rfl (fun _ => bd_31_0_1_2 _ _ _ _ _ _ _ _ _)) ?_)
  refine gl_op (op_alloc ty_31 rfl rfl (fun b1 => ?_))
  refine gl_op (op_storeAgg 0 ty_31 rfl rfl rfl rfl rfl rfl (by rfl) ?_)
  refine gl_nil <| gx_then <| gc_seq <| gc_drawP [0, 1, 2, 3, 4] true 7 rfl <| ga_first 1 (bm 8 2) rfl rfl rfl rfl (by kernel_rfl) (by kernel_rfl) ⟨[0, 1, 2, 3, 4], by decide, rfl⟩ (qt_rd (rd_loadAgg Tryd.underlying31 rfl ty_31 rfl (by exact cs_blk 0 (off := 0) (k := 3) rfl rfl) rfl)) ?_
  refine ga_only 0 (bm 8 3) rfl rfl (by kernel_rfl) (by kernel_rfl) (.inr ⟨[0, 1, 2, 3, 4], by decide, rfl⟩) (op_call rfl (vf := []) (vc := []) rfl rfl Tryd.call27 (fun w1 ho => ex12_ok w1) ?_)
  rintro _ _ ⟨be14, d14, r14, pa14, pb14, pc14, t14, c14, cc14, rfl, rfl⟩
  refine ga_only 2 (bm 8 7) rfl rfl (by kernel_rfl) (by kernel_rfl) (.inr ⟨[8, 9, 10, 11, 12], by decide, rfl⟩) (op_call rfl (vf := []) (vc := []) rfl rfl Tryd.call12 (fun w1 ho => Keys_ok (ex12 d14 r14 pa14 pb14 pc14 t14 c14 cc14) (exHN (rowA (some b9)) (rowA (some b8)) (rowA (some b10)) (rowA (some b11))).hd ex_le ex_hle w1 (ex_in (ho.rowSl 7 rfl) (ho.rowSl 6 rfl) (ho.rowSl 2 rfl) (ho.rowSl 1 rfl) (ho.rowSl 5 rfl) (ho.rowSl 4 rfl) (ho.rowSl 3 rfl)) (exh_in (ho.rowSl 11 rfl) (ho.rowSl 12 rfl) (ho.rowSl 10 rfl) (ho.rowSl 9 rfl)) (hT.at ho (by decide))) ?_)
  rintro _ _ hq
  obtain ⟨r16, g16, hg16, rfl, rfl⟩ := ex_KeysR hq
  unfold KG.hl
  refine ga_first 3 (bm 8 15) rfl rfl rfl rfl (by kernel_rfl) (by kernel_rfl) ⟨[10, 11, 12, 13, 14], by decide, rfl⟩ (qt_rd (rd_move rfl)) ?_
  refine ga_first 4 (bm 8 31) rfl rfl rfl rfl (by kernel_rfl) (by kernel_rfl) ⟨[10, 11, 12, 13, 14], by decide, rfl⟩ (qt_rd (rd_extract rfl rfl)) ?_
  refine ga_first 5 (bm 8 63) rfl rfl rfl rfl (by kernel_rfl) (by kernel_rfl) ⟨[10, 11, 12, 13, 14], by decide, rfl⟩ (qt_rd (rd_extract rfl rfl)) ?_
  refine ga_first 6 (bm 8 127) rfl rfl rfl rfl (by kernel_rfl) (by kernel_rfl) ⟨[10, 11, 12, 13, 14], by decide, rfl⟩ (qt_rd (rd_assign rfl)) ?_
  refine ga_first 7 (bm 8 255) rfl rfl rfl rfl (by kernel_rfl) (by kernel_rfl) ⟨[10, 11, 12, 13, 14], by decide, rfl⟩ (qt_rd (rd_assign rfl)) ?_
  refine ga_end (by kernel_rfl) (.inr ⟨[10, 11, 12, 13, 14], by decide, rfl⟩) ?_
  refine gx_then <| gc_seq <| gc_drawP [0, 1, 2, 3, 4, 5, 6, 7, 8, 9, 10, 11, 12, 13, 14] true 7 rfl <| ga_first 1 (bm 8 2) rfl rfl rfl rfl (by kernel_rfl) (by kernel_rfl) ⟨[0, 1, 2, 3, 4, 5, 6, 7, 8, 9, 10, 11, 12, 13, 14], by decide, rfl⟩ (qt_rd (rd_loadAgg Tryd.underlying31 rfl ty_31 rfl (by exact cs_blk 10 (off := 0) (k := 3) rfl rfl) rfl)) ?_
  refine ga_only 0 (bm 8 3) rfl rfl (by kernel_rfl) (by kernel_rfl) (.inr ⟨[0, 1, 2, 3, 4, 5, 6, 7, 8, 9, 10, 11, 12, 13, 14], by decide, rfl⟩) (op_call rfl (vf := []) (vc := []) rfl rfl Tryd.call27 (fun w1 ho => ex12_ok w1) ?_)
  rintro _ _ ⟨be20, d20, r20, pa20, pb20, pc20, t20, c20, cc20, rfl, rfl⟩
  refine ga_only 2 (bm 8 7) rfl rfl (by kernel_rfl) (by kernel_rfl) (.inr ⟨[8, 9, 10, 11, 12, 13, 14, 15, 16, 17, 18, 19, 20, 21, 22], by decide, rfl⟩) (op_call rfl (vf := []) (vc := []) rfl rfl Tryd.call21 (fun w1 ho => Pipes_ok (ex12 d20 r20 pa20 pb20 pc20 t20 c20 cc20) (exHN (rowA (some b9)) (rowA (some b8)) (rowA (some b10)) (rowA (some b11))).hd ex_le ex_hle w1 (ex_in (ho.rowSl 7 rfl) (ho.rowSl 6 rfl) (ho.rowSl 2 rfl) (ho.rowSl 1 rfl) (ho.rowSl 5 rfl) (ho.rowSl 4 rfl) (ho.rowSl 3 rfl)) (exh_in (ho.rowSl 21 rfl) (ho.rowSl 22 rfl) (ho.rowSl 20 rfl) (ho.rowSl 19 rfl)) (hT.at ho (by decide))) ?_)
  rintro _ _ hq
  obtain ⟨r22, c22, rfl, rfl⟩ := ex_PipesR hq
  refine ga_first 3 (bm 8 15) rfl rfl rfl rfl (by kernel_rfl) (by kernel_rfl) ⟨[9, 10, 11, 12, 13, 14, 15, 16, 17, 18, 19, 20, 21, 22, 23], by decide, rfl⟩ (qt_rd (rd_move rfl)) ?_
  refine ga_first 4 (bm 8 31) rfl rfl rfl rfl (by kernel_rfl) (by kernel_rfl) ⟨[9, 10, 11, 12, 13, 14, 15, 16, 17, 18, 19, 20, 21, 22, 23], by decide, rfl⟩ (qt_rd (rd_extract rfl rfl)) ?_
  refine ga_first 5 (bm 8 63) rfl rfl rfl rfl (by kernel_rfl) (by kernel_rfl) ⟨[9, 10, 11, 12, 13, 14, 15, 16, 17, 18, 19, 20, 21, 22, 23], by decide, rfl⟩ (qt_rd (rd_extract rfl rfl)) ?_
  refine ga_first 6 (bm 8 127) rfl rfl rfl rfl (by kernel_rfl) (by kernel_rfl) ⟨[9, 10, 11, 12, 13, 14, 15, 16, 17, 18, 19, 20, 21, 22, 23], by decide, rfl⟩ (qt_rd (rd_assign rfl)) ?_
  refine ga_first 7 (bm 8 255) rfl rfl rfl rfl (by kernel_rfl) (by kernel_rfl) ⟨[9, 10, 11, 12, 13, 14, 15, 16, 17, 18, 19, 20, 21, 22, 23], by decide, rfl⟩ (qt_rd (rd_assign rfl)) ?_
  refine ga_end (by kernel_rfl) (.inr ⟨[9, 10, 11, 12, 13, 14, 15, 16, 17, 18, 19, 20, 21, 22, 23], by decide, rfl⟩) ?_
  refine gx_then <| gc_seq <| gc_drawP [0, 1, 2, 3, 4, 5, 6, 7, 8, 9, 10, 11, 12, 13, 14, 15, 16, 17, 18, 19, 20, 21, 22, 23] false 9 rfl <| ga_first 1 (bm 10 2) rfl rfl rfl rfl (by kernel_rfl) (by kernel_rfl) ⟨[0, 1, 2, 3, 4, 5, 6, 7, 8, 9, 10, 11, 12, 13, 14, 15, 16, 17, 18, 19, 20, 21, 22, 23], by decide, rfl⟩ (qt_rd (rd_loadAgg Tryd.underlying31 rfl ty_31 rfl (by exact cs_blk 19 (off := 0) (k := 3) rfl rfl) rfl)) ?_
  refine ga_first 2 (bm 10 6) rfl rfl rfl rfl (by kernel_rfl) (by kernel_rfl) ⟨[0, 1, 2, 3, 4, 5, 6, 7, 8, 9, 10, 11, 12, 13, 14, 15, 16, 17, 18, 19, 20, 21, 22, 23], by decide, rfl⟩ (qt_rd (rd_build rfl (fun _ => bd_42_1 _))) ?_
  refine ga_two 0 7 (bm 10 7) (bm 10 134) rfl rfl rfl rfl (by kernel_rfl) (by kernel_rfl) (by kernel_rfl) (.inr ⟨[0, 1, 2, 3, 4, 5, 6, 7, 8, 9, 10, 11, 12, 13, 14, 15, 16, 17, 18, 19, 20, 21, 22, 23], by decide, rfl⟩) ?_ ?_
  · refine (op_call rfl (vf := []) (vc := []) rfl rfl Tryd.call27 (fun w1 ho => ex12_ok w1) ?_)
    rintro _ _ ⟨be26, d26, r26, pa26, pb26, pc26, t26, c26, cc26, rfl, rfl⟩
    refine ga_two 3 7 (bm 10 15) (bm 10 135) rfl rfl rfl rfl (by kernel_rfl) (by kernel_rfl) (by kernel_rfl) (.inr ⟨[8, 9, 10, 11, 12, 13, 14, 15, 16, 17, 18, 19, 20, 21, 22, 23, 24, 25, 26, 27, 28, 29, 30, 31], by decide, rfl⟩) ?_ ?_
    · refine (op_call rfl (vf := []) (vc := []) rfl rfl Tryd.call17 (fun w1 ho => Why_ok (ex12 d26 r26 pa26 pb26 pc26 t26 c26 cc26) (exHN (rowA (some b9)) (rowA (some b8)) (rowA (some b10)) (rowA (some b11))).hd ex_le ex_hle 0 72 w1 (ex_in (ho.rowSl 7 rfl) (ho.rowSl 6 rfl) (ho.rowSl 2 rfl) (ho.rowSl 1 rfl) (ho.rowSl 5 rfl) (ho.rowSl 4 rfl) (ho.rowSl 3 rfl)) (exh_in (ho.rowSl 30 rfl) (ho.rowSl 31 rfl) (ho.rowSl 29 rfl) (ho.rowSl 28 rfl)) (hT.at ho (by decide))) ?_)
      rintro _ _ hq
      obtain ⟨b29, r29, c29, rfl, rfl⟩ := ex_WhyR hq
      refine ga_first 4 (bm 10 31) rfl rfl rfl rfl (by kernel_rfl) (by kernel_rfl) ⟨[10, 11, 12, 13, 14, 15, 16, 17, 18, 19, 20, 21, 22, 23, 24, 25, 26, 27, 28, 29, 30, 31, 32, 33], by decide, rfl⟩ (qt_rd (rd_move rfl)) ?_
      refine ga_first 5 (bm 10 63) rfl rfl rfl rfl (by kernel_rfl) (by kernel_rfl) ⟨[10, 11, 12, 13, 14, 15, 16, 17, 18, 19, 20, 21, 22, 23, 24, 25, 26, 27, 28, 29, 30, 31, 32, 33], by decide, rfl⟩ (qt_rd (rd_extract rfl rfl)) ?_
      refine ga_first 6 (bm 10 127) rfl rfl rfl rfl (by kernel_rfl) (by kernel_rfl) ⟨[10, 11, 12, 13, 14, 15, 16, 17, 18, 19, 20, 21, 22, 23, 24, 25, 26, 27, 28, 29, 30, 31, 32, 33], by decide, rfl⟩ (qt_rd (rd_extract rfl rfl)) ?_
      refine ga_only 7 (bm 10 255) rfl rfl (by kernel_rfl) (by kernel_rfl) (.inr ⟨[10, 11, 12, 13, 14, 15, 16, 17, 18, 19, 20, 21, 22, 23, 24, 25, 26, 27, 28, 29, 30, 31, 32, 33], by decide, rfl⟩) (op_alloc ty_44 rfl rfl (fun b6 => ?_))
      refine ga_only 8 (bm 10 511) rfl rfl (by kernel_rfl) (by kernel_rfl) (.inr ⟨[11, 12, 13, 14, 15, 16, 17, 18, 19, 20, 21, 22, 23, 24, 25, 26, 27, 28, 29, 30, 31, 32, 33, 34], by decide, rfl⟩) (op_storeAgg 0 ty_44 rfl rfl rfl rfl rfl rfl (by rfl) ?_)
      refine ga_only 9 (bm 10 1023) rfl rfl (by kernel_rfl) (by kernel_rfl) (.inr ⟨[11, 12, 13, 14, 15, 16, 17, 18, 19, 20, 21, 22, 23, 24, 25, 26, 27, 28, 29, 30, 31, 32, 33, 34], by decide, rfl⟩) (op_rd rfl (rd_assign rfl) ?_)
      refine ga_end (by kernel_rfl) (.inl (by kernel_rfl)) ?_
      refine gx_then <| gc_seq <| gc_region <| gl_op <| op_rd rfl (rd_move rfl) <| gl_op <| op_rd rfl (rd_lenSlice Tryd.underlying28 rfl) <| gl_op (op_rd rfl (rd_eql rfl rfl) (gk_dec (fun h34 => ?_) (fun h34 => ?_)))
      · refine gl_op <| op_rd rfl (rd_move rfl) <| gl_yes rfl rfl <| op_rd rfl (rd_move rfl) <| gl_yes rfl rfl (op_rd rfl (rd_indexRow1 20 rfl Tryd.underlying28 ty_29 rfl rfl (by omega) (by omega)) ?_)
        refine gl_yes rfl rfl <| op_rd rfl (rd_load Tryd.underlying29 rfl rfl (ld_rowN 20 (off := 0) rfl rfl)) <| gl_yes rfl rfl (op_buildSlice (sz := 1) rfl rfl (fun _ => bs_29_3_0_1_2 _ _ _) rfl rfl (fun b39 => ?_))
        unfold KG.cell
        refine gl_yes rfl rfl (op_call rfl (vf := []) (vc := []) rfl rfl Tryd.call16 (fun w1 ho => sameIntsN_ok g16.ks [36, 48, 60] _ _ _ _ (by rw [hg16]; decide) w1 (ho.rowSl 22 rfl) (ho.rowSl 0 rfl)) ?_)
        rintro _ _ ⟨rfl, rfl⟩
        refine gk_bool (fun h40 => ?_) (fun h40 => ?_)
        · refine gl_op <| op_rd rfl (rd_pick_t rfl rfl) <| gl_op <| op_rd rfl (rd_move rfl) <| gl_yes rfl rfl <| op_rd rfl (rd_move rfl) <| gl_yes rfl rfl (op_buildSlice (sz := 1) rfl rfl (fun _ => bs_29_4_0_1_2_3 _ _ _ _) rfl rfl (fun b44 => ?_))
          refine gl_yes rfl rfl (op_call rfl (vf := []) (vc := []) rfl rfl Tryd.call30 (fun w1 ho => flutes_ok [36, 48, 60, 72] _ _ (by decide) w1 (ho.rowSl 0 rfl)) ?_)
          rintro _ _ ⟨r45, c45, rfl, rfl⟩
          refine gl_yes rfl rfl (op_call rfl (vf := []) (vc := []) rfl rfl Tryd.call29 (fun w1 ho => SamePipes_ok (flutesP [36, 48, 60, 72]) (flutesP [36, 48, 60, 72]) _ _ _ _ (by decide) w1 (ho.rowSl 14 rfl) (ho.rowSl 0 rfl)) ?_)
          rintro _ _ ⟨rfl, rfl⟩
          refine gk_bool (fun h46 => ?_) (fun h46 => ?_)
          · refine gl_op <| op_rd rfl (rd_pick_t rfl rfl) <| gl_op <| op_rd rfl (rd_move rfl) <| gl_yes rfl rfl (op_rd rfl (rd_loadAgg Tryd.underlying44 rfl ty_44 rfl (by exact cs_blk 3 (off := 0) (k := 6) rfl rfl) rfl) ?_)
            refine gl_yes rfl rfl (op_buildSlice (sz := 1) rfl rfl (fun _ => bs_29_2_0_1 _ _) rfl rfl (fun b50 => ?_))
            refine gl_yes rfl rfl (op_rd rfl (rd_build rfl (fun _ => bd_44_1_2_4_5 _ _ _ _ _ _)) ?_)
            refine gl_yes rfl rfl (op_call rfl (vf := []) (vc := []) rfl rfl Tryd.call19 (fun w1 ho => SameReason_ok ⟨0, 36, [0, 3], 0, 60, 1⟩ ⟨0, 36, [0, 3], 0, 60, 1⟩ (rowA r29) (rowA (some b50)) c29 2 (by decide) w1 (ho.rowSl 6 rfl) (ho.rowSl 0 rfl)) ?_)
            rintro _ _ ⟨rfl, rfl⟩
            refine gk_bool (fun h52 => ?_) (fun h52 => ?_)
            · refine gl_op <| op_rd rfl (rd_pick_t rfl rfl) <| gl_op <| op_rd rfl (rd_move rfl) <| gl_yes rfl rfl <| op_rd rfl (rd_move rfl) <| gl_yes rfl rfl (op_rd rfl (rd_eql rfl rfl) (gk_dec (fun h56 => ?_) (fun h56 => ?_)))
              · refine gl_op <| op_rd rfl (rd_pick_t rfl rfl) <| gl_op <| op_rd rfl (rd_move rfl) <| gl_yes rfl rfl <| op_rd rfl (rd_move rfl) <| gl_yes rfl rfl (op_rd rfl (rd_eql rfl rfl) (gk_dec (fun h60 => ?_) (fun h60 => ?_)))
                · refine gl_op <| op_rd rfl (rd_pick_t rfl rfl) <| gl_op <| op_rd rfl (rd_move rfl) <| gl_yes rfl rfl <| op_rd rfl (rd_move rfl) <| gl_yes rfl rfl (op_rd rfl (rd_eql rfl rfl) (gk_dec (fun h64 => ?_) (fun h64 => ?_)))
                  · refine gl_op <| op_rd rfl (rd_pick_t rfl rfl) <| gl_op <| op_rd rfl (rd_assign rfl) <| gl_nil <| gx_then <| gc_ret <| gx_ret1 (.inl rfl) Tryd.results11 rfl [] (by decide) ?_
                    exact ⟨rfl, rfl⟩
                  refine gl_op <| op_rd rfl (rd_pick_t rfl rfl) <| gl_op <| op_rd rfl (rd_assign rfl) <| gl_nil <| gx_then <| gc_ret <| gx_ret1 (.inl rfl) Tryd.results11 rfl [] (by decide) ?_
                  exact absurd rfl h64
                refine gl_op <| op_rd rfl (rd_pick_t rfl rfl) <| gl_op <| op_rd rfl (rd_move rfl) <| gl_no rfl rfl rfl <| gl_no rfl rfl rfl <| gl_op <| op_rd rfl (rd_pick_f rfl rfl) <| gl_op <| op_rd rfl (rd_assign rfl) <| gl_nil <| gx_then <| gc_ret <| gx_ret1 (.inl rfl) Tryd.results11 rfl [] (by decide) ?_
                exact absurd rfl h60
              refine gl_op <| op_rd rfl (rd_pick_t rfl rfl) <| gl_op <| op_rd rfl (rd_move rfl) <| gl_no rfl rfl rfl <| gl_no rfl rfl rfl <| gl_op <| op_rd rfl (rd_pick_f rfl rfl) <| gl_op <| op_rd rfl (rd_move rfl) <| gl_no rfl rfl rfl <| gl_no rfl rfl rfl <| gl_op <| op_rd rfl (rd_pick_f rfl rfl) <| gl_op <| op_rd rfl (rd_assign rfl) <| gl_nil <| gx_then <| gc_ret <| gx_ret1 (.inl rfl) Tryd.results11 rfl [] (by decide) ?_
              exact absurd rfl h56
            refine gl_op <| op_rd rfl (rd_pick_t rfl rfl) <| gl_op <| op_rd rfl (rd_move rfl) <| gl_no rfl rfl rfl <| gl_no rfl rfl rfl <| gl_op <| op_rd rfl (rd_pick_f rfl rfl) <| gl_op <| op_rd rfl (rd_move rfl) <| gl_no rfl rfl rfl <| gl_no rfl rfl rfl <| gl_op <| op_rd rfl (rd_pick_f rfl rfl) <| gl_op <| op_rd rfl (rd_move rfl) <| gl_no rfl rfl rfl <| gl_no rfl rfl rfl <| gl_op <| op_rd rfl (rd_pick_f rfl rfl) <| gl_op <| op_rd rfl (rd_assign rfl) <| gl_nil <| gx_then <| gc_ret <| gx_ret1 (.inl rfl) Tryd.results11 rfl [] (by decide) ?_
            rw [decide_eq_true rfl] at h52; cases h52
          refine gl_op <| op_rd rfl (rd_pick_t rfl rfl) <| gl_op <| op_rd rfl (rd_move rfl) <| gl_no rfl rfl rfl <| gl_no rfl rfl rfl <| gl_no rfl rfl rfl <| gl_no rfl rfl rfl <| gl_op <| op_rd rfl (rd_pick_f rfl rfl) <| gl_op <| op_rd rfl (rd_move rfl) <| gl_no rfl rfl rfl <| gl_no rfl rfl rfl <| gl_op <| op_rd rfl (rd_pick_f rfl rfl) <| gl_op <| op_rd rfl (rd_move rfl) <| gl_no rfl rfl rfl <| gl_no rfl rfl rfl <| gl_op <| op_rd rfl (rd_pick_f rfl rfl) <| gl_op <| op_rd rfl (rd_move rfl) <| gl_no rfl rfl rfl <| gl_no rfl rfl rfl <| gl_op <| op_rd rfl (rd_pick_f rfl rfl) <| gl_op <| op_rd rfl (rd_assign rfl) <| gl_nil <| gx_then <| gc_ret <| gx_ret1 (.inl rfl) Tryd.results11 rfl [] (by decide) ?_
          rw [decide_eq_true rfl] at h46; cases h46
        refine gl_op <| op_rd rfl (rd_pick_t rfl rfl) <| gl_op <| op_rd rfl (rd_move rfl) <| gl_no rfl rfl rfl <| gl_no rfl rfl rfl <| gl_no rfl rfl rfl <| gl_no rfl rfl rfl <| gl_op <| op_rd rfl (rd_pick_f rfl rfl) <| gl_op <| op_rd rfl (rd_move rfl) <| gl_no rfl rfl rfl <| gl_no rfl rfl rfl <| gl_no rfl rfl rfl <| gl_no rfl rfl rfl <| gl_op <| op_rd rfl (rd_pick_f rfl rfl) <| gl_op <| op_rd rfl (rd_move rfl) <| gl_no rfl rfl rfl <| gl_no rfl rfl rfl <| gl_op <| op_rd rfl (rd_pick_f rfl rfl) <| gl_op <| op_rd rfl (rd_move rfl) <| gl_no rfl rfl rfl <| gl_no rfl rfl rfl <| gl_op <| op_rd rfl (rd_pick_f rfl rfl) <| gl_op <| op_rd rfl (rd_move rfl) <| gl_no rfl rfl rfl <| gl_no rfl rfl rfl <| gl_op <| op_rd rfl (rd_pick_f rfl rfl) ?_
        refine gl_op <| op_rd rfl (rd_assign rfl) <| gl_nil <| gx_then <| gc_ret <| gx_ret1 (.inl rfl) Tryd.results11 rfl [] (by decide) ?_
        rw [decide_eq_true hg16] at h40; cases h40
      refine gl_op <| op_rd rfl (rd_move rfl) <| gl_no rfl rfl rfl <| gl_no rfl rfl rfl <| gl_no rfl rfl rfl <| gl_no rfl rfl rfl <| gl_no rfl rfl rfl <| gl_op <| op_rd rfl (rd_pick_f rfl rfl) <| gl_op <| op_rd rfl (rd_move rfl) <| gl_no rfl rfl rfl <| gl_no rfl rfl rfl <| gl_no rfl rfl rfl <| gl_no rfl rfl rfl <| gl_op <| op_rd rfl (rd_pick_f rfl rfl) <| gl_op <| op_rd rfl (rd_move rfl) <| gl_no rfl rfl rfl <| gl_no rfl rfl rfl <| gl_no rfl rfl rfl <| gl_no rfl rfl rfl <| gl_op <| op_rd rfl (rd_pick_f rfl rfl) <| gl_op <| op_rd rfl (rd_move rfl) <| gl_no rfl rfl rfl <| gl_no rfl rfl rfl <| gl_op <| op_rd rfl (rd_pick_f rfl rfl) <| gl_op <| op_rd rfl (rd_move rfl) <| gl_no rfl rfl rfl ?_
      refine gl_no rfl rfl rfl <| gl_op <| op_rd rfl (rd_pick_f rfl rfl) <| gl_op <| op_rd rfl (rd_move rfl) <| gl_no rfl rfl rfl <| gl_no rfl rfl rfl <| gl_op <| op_rd rfl (rd_pick_f rfl rfl) <| gl_op <| op_rd rfl (rd_assign rfl) <| gl_nil <| gx_then <| gc_ret <| gx_ret1 (.inl rfl) Tryd.results11 rfl [] (by decide) ?_
      exact absurd rfl h34
    refine (op_alloc ty_44 rfl rfl (fun b6 => ?_))
    refine ga_only 3 (bm 10 143) rfl rfl (by kernel_rfl) (by kernel_rfl) (.inr ⟨[9, 10, 11, 12, 13, 14, 15, 16, 17, 18, 19, 20, 21, 22, 23, 24, 25, 26, 27, 28, 29, 30, 31, 32], by decide, rfl⟩) (op_call rfl (vf := []) (vc := []) rfl rfl Tryd.call17 (fun w1 ho => Why_ok (ex12 d26 r26 pa26 pb26 pc26 t26 c26 cc26) (exHN (rowA (some b9)) (rowA (some b8)) (rowA (some b10)) (rowA (some b11))).hd ex_le ex_hle 0 72 w1 (ex_in (ho.rowSl 8 rfl) (ho.rowSl 7 rfl) (ho.rowSl 3 rfl) (ho.rowSl 2 rfl) (ho.rowSl 6 rfl) (ho.rowSl 5 rfl) (ho.rowSl 4 rfl)) (exh_in (ho.rowSl 31 rfl) (ho.rowSl 32 rfl) (ho.rowSl 30 rfl) (ho.rowSl 29 rfl)) (hT.at ho (by decide))) ?_)
    rintro _ _ hq
    obtain ⟨b29, r29, c29, rfl, rfl⟩ := ex_WhyR hq
    refine ga_first 4 (bm 10 159) rfl rfl rfl rfl (by kernel_rfl) (by kernel_rfl) ⟨[11, 12, 13, 14, 15, 16, 17, 18, 19, 20, 21, 22, 23, 24, 25, 26, 27, 28, 29, 30, 31, 32, 33, 34], by decide, rfl⟩ (qt_rd (rd_move rfl)) ?_
    refine ga_first 5 (bm 10 191) rfl rfl rfl rfl (by kernel_rfl) (by kernel_rfl) ⟨[11, 12, 13, 14, 15, 16, 17, 18, 19, 20, 21, 22, 23, 24, 25, 26, 27, 28, 29, 30, 31, 32, 33, 34], by decide, rfl⟩ (qt_rd (rd_extract rfl rfl)) ?_
    refine ga_first 6 (bm 10 255) rfl rfl rfl rfl (by kernel_rfl) (by kernel_rfl) ⟨[11, 12, 13, 14, 15, 16, 17, 18, 19, 20, 21, 22, 23, 24, 25, 26, 27, 28, 29, 30, 31, 32, 33, 34], by decide, rfl⟩ (qt_rd (rd_extract rfl rfl)) ?_
    refine ga_only 8 (bm 10 511) rfl rfl (by kernel_rfl) (by kernel_rfl) (.inr ⟨[11, 12, 13, 14, 15, 16, 17, 18, 19, 20, 21, 22, 23, 24, 25, 26, 27, 28, 29, 30, 31, 32, 33, 34], by decide, rfl⟩) (op_storeAgg 2 ty_44 rfl rfl rfl rfl rfl rfl (by rfl) ?_)
    refine ga_only 9 (bm 10 1023) rfl rfl (by kernel_rfl) (by kernel_rfl) (.inr ⟨[11, 12, 13, 14, 15, 16, 17, 18, 19, 20, 21, 22, 23, 24, 25, 26, 27, 28, 29, 30, 31, 32, 33, 34], by decide, rfl⟩) (op_rd rfl (rd_assign rfl) ?_)
    refine ga_end (by kernel_rfl) (.inl (by kernel_rfl)) ?_
    refine gx_then <| gc_seq <| gc_region <| gl_op <| op_rd rfl (rd_move rfl) <| gl_op <| op_rd rfl (rd_lenSlice Tryd.underlying28 rfl) <| gl_op (op_rd rfl (rd_eql rfl rfl) (gk_dec (fun h34 => ?_) (fun h34 => ?_)))
    · refine gl_op <| op_rd rfl (rd_move rfl) <| gl_yes rfl rfl <| op_rd rfl (rd_move rfl) <| gl_yes rfl rfl (op_rd rfl (rd_indexRow1 20 rfl Tryd.underlying28 ty_29 rfl rfl (by omega) (by omega)) ?_)
      refine gl_yes rfl rfl <| op_rd rfl (rd_load Tryd.underlying29 rfl rfl (ld_rowN 20 (off := 0) rfl rfl)) <| gl_yes rfl rfl (op_buildSlice (sz := 1) rfl rfl (fun _ => bs_29_3_0_1_2 _ _ _) rfl rfl (fun b39 => ?_))
      unfold KG.cell
      refine gl_yes rfl rfl (op_call rfl (vf := []) (vc := []) rfl rfl Tryd.call16 (fun w1 ho => sameIntsN_ok g16.ks [36, 48, 60] _ _ _ _ (by rw [hg16]; decide) w1 (ho.rowSl 22 rfl) (ho.rowSl 0 rfl)) ?_)
      rintro _ _ ⟨rfl, rfl⟩
      refine gk_bool (fun h40 => ?_) (fun h40 => ?_)
      · refine gl_op <| op_rd rfl (rd_pick_t rfl rfl) <| gl_op <| op_rd rfl (rd_move rfl) <| gl_yes rfl rfl <| op_rd rfl (rd_move rfl) <| gl_yes rfl rfl (op_buildSlice (sz := 1) rfl rfl (fun _ => bs_29_4_0_1_2_3 _ _ _ _) rfl rfl (fun b44 => ?_))
        refine gl_yes rfl rfl (op_call rfl (vf := []) (vc := []) rfl rfl Tryd.call30 (fun w1 ho => flutes_ok [36, 48, 60, 72] _ _ (by decide) w1 (ho.rowSl 0 rfl)) ?_)
        rintro _ _ ⟨r45, c45, rfl, rfl⟩
        refine gl_yes rfl rfl (op_call rfl (vf := []) (vc := []) rfl rfl Tryd.call29 (fun w1 ho => SamePipes_ok (flutesP [36, 48, 60, 72]) (flutesP [36, 48, 60, 72]) _ _ _ _ (by decide) w1 (ho.rowSl 14 rfl) (ho.rowSl 0 rfl)) ?_)
        rintro _ _ ⟨rfl, rfl⟩
        refine gk_bool (fun h46 => ?_) (fun h46 => ?_)
        · refine gl_op <| op_rd rfl (rd_pick_t rfl rfl) <| gl_op <| op_rd rfl (rd_move rfl) <| gl_yes rfl rfl (op_rd rfl (rd_loadAgg Tryd.underlying44 rfl ty_44 rfl (by exact cs_blk 5 (off := 0) (k := 6) rfl rfl) rfl) ?_)
          refine gl_yes rfl rfl (op_buildSlice (sz := 1) rfl rfl (fun _ => bs_29_2_0_1 _ _) rfl rfl (fun b50 => ?_))
          refine gl_yes rfl rfl (op_rd rfl (rd_build rfl (fun _ => bd_44_1_2_4_5 _ _ _ _ _ _)) ?_)
          refine gl_yes rfl rfl (op_call rfl (vf := []) (vc := []) rfl rfl Tryd.call19 (fun w1 ho => SameReason_ok ⟨0, 36, [0, 3], 0, 60, 1⟩ ⟨0, 36, [0, 3], 0, 60, 1⟩ (rowA r29) (rowA (some b50)) c29 2 (by decide) w1 (ho.rowSl 5 rfl) (ho.rowSl 0 rfl)) ?_)
          rintro _ _ ⟨rfl, rfl⟩
          refine gk_bool (fun h52 => ?_) (fun h52 => ?_)
          · refine gl_op <| op_rd rfl (rd_pick_t rfl rfl) <| gl_op <| op_rd rfl (rd_move rfl) <| gl_yes rfl rfl <| op_rd rfl (rd_move rfl) <| gl_yes rfl rfl (op_rd rfl (rd_eql rfl rfl) (gk_dec (fun h56 => ?_) (fun h56 => ?_)))
            · refine gl_op <| op_rd rfl (rd_pick_t rfl rfl) <| gl_op <| op_rd rfl (rd_move rfl) <| gl_yes rfl rfl <| op_rd rfl (rd_move rfl) <| gl_yes rfl rfl (op_rd rfl (rd_eql rfl rfl) (gk_dec (fun h60 => ?_) (fun h60 => ?_)))
              · refine gl_op <| op_rd rfl (rd_pick_t rfl rfl) <| gl_op <| op_rd rfl (rd_move rfl) <| gl_yes rfl rfl <| op_rd rfl (rd_move rfl) <| gl_yes rfl rfl (op_rd rfl (rd_eql rfl rfl) (gk_dec (fun h64 => ?_) (fun h64 => ?_)))
                · refine gl_op <| op_rd rfl (rd_pick_t rfl rfl) <| gl_op <| op_rd rfl (rd_assign rfl) <| gl_nil <| gx_then <| gc_ret <| gx_ret1 (.inl rfl) Tryd.results11 rfl [] (by decide) ?_
                  exact ⟨rfl, rfl⟩
                refine gl_op <| op_rd rfl (rd_pick_t rfl rfl) <| gl_op <| op_rd rfl (rd_assign rfl) <| gl_nil <| gx_then <| gc_ret <| gx_ret1 (.inl rfl) Tryd.results11 rfl [] (by decide) ?_
                exact absurd rfl h64
              refine gl_op <| op_rd rfl (rd_pick_t rfl rfl) <| gl_op <| op_rd rfl (rd_move rfl) <| gl_no rfl rfl rfl <| gl_no rfl rfl rfl <| gl_op <| op_rd rfl (rd_pick_f rfl rfl) <| gl_op <| op_rd rfl (rd_assign rfl) <| gl_nil <| gx_then <| gc_ret <| gx_ret1 (.inl rfl) Tryd.results11 rfl [] (by decide) ?_
              exact absurd rfl h60
            refine gl_op <| op_rd rfl (rd_pick_t rfl rfl) <| gl_op <| op_rd rfl (rd_move rfl) <| gl_no rfl rfl rfl <| gl_no rfl rfl rfl <| gl_op <| op_rd rfl (rd_pick_f rfl rfl) <| gl_op <| op_rd rfl (rd_move rfl) <| gl_no rfl rfl rfl <| gl_no rfl rfl rfl <| gl_op <| op_rd rfl (rd_pick_f rfl rfl) <| gl_op <| op_rd rfl (rd_assign rfl) <| gl_nil <| gx_then <| gc_ret <| gx_ret1 (.inl rfl) Tryd.results11 rfl [] (by decide) ?_
            exact absurd rfl h56
          refine gl_op <| op_rd rfl (rd_pick_t rfl rfl) <| gl_op <| op_rd rfl (rd_move rfl) <| gl_no rfl rfl rfl <| gl_no rfl rfl rfl <| gl_op <| op_rd rfl (rd_pick_f rfl rfl) <| gl_op <| op_rd rfl (rd_move rfl) <| gl_no rfl rfl rfl <| gl_no rfl rfl rfl <| gl_op <| op_rd rfl (rd_pick_f rfl rfl) <| gl_op <| op_rd rfl (rd_move rfl) <| gl_no rfl rfl rfl <| gl_no rfl rfl rfl <| gl_op <| op_rd rfl (rd_pick_f rfl rfl) <| gl_op <| op_rd rfl (rd_assign rfl) <| gl_nil <| gx_then <| gc_ret <| gx_ret1 (.inl rfl) Tryd.results11 rfl [] (by decide) ?_
          rw [decide_eq_true rfl] at h52; cases h52
        refine gl_op <| op_rd rfl (rd_pick_t rfl rfl) <| gl_op <| op_rd rfl (rd_move rfl) <| gl_no rfl rfl rfl <| gl_no rfl rfl rfl <| gl_no rfl rfl rfl <| gl_no rfl rfl rfl <| gl_op <| op_rd rfl (rd_pick_f rfl rfl) <| gl_op <| op_rd rfl (rd_move rfl) <| gl_no rfl rfl rfl <| gl_no rfl rfl rfl <| gl_op <| op_rd rfl (rd_pick_f rfl rfl) <| gl_op <| op_rd rfl (rd_move rfl) <| gl_no rfl rfl rfl <| gl_no rfl rfl rfl <| gl_op <| op_rd rfl (rd_pick_f rfl rfl) <| gl_op <| op_rd rfl (rd_move rfl) <| gl_no rfl rfl rfl <| gl_no rfl rfl rfl <| gl_op <| op_rd rfl (rd_pick_f rfl rfl) <| gl_op <| op_rd rfl (rd_assign rfl) <| gl_nil <| gx_then <| gc_ret <| gx_ret1 (.inl rfl) Tryd.results11 rfl [] (by decide) ?_
        rw [decide_eq_true rfl] at h46; cases h46
      refine gl_op <| op_rd rfl (rd_pick_t rfl rfl) <| gl_op <| op_rd rfl (rd_move rfl) <| gl_no rfl rfl rfl <| gl_no rfl rfl rfl <| gl_no rfl rfl rfl <| gl_no rfl rfl rfl <| gl_op <| op_rd rfl (rd_pick_f rfl rfl) <| gl_op <| op_rd rfl (rd_move rfl) <| gl_no rfl rfl rfl <| gl_no rfl rfl rfl <| gl_no rfl rfl rfl <| gl_no rfl rfl rfl <| gl_op <| op_rd rfl (rd_pick_f rfl rfl) <| gl_op <| op_rd rfl (rd_move rfl) <| gl_no rfl rfl rfl <| gl_no rfl rfl rfl <| gl_op <| op_rd rfl (rd_pick_f rfl rfl) <| gl_op <| op_rd rfl (rd_move rfl) <| gl_no rfl rfl rfl <| gl_no rfl rfl rfl <| gl_op <| op_rd rfl (rd_pick_f rfl rfl) <| gl_op <| op_rd rfl (rd_move rfl) <| gl_no rfl rfl rfl <| gl_no rfl rfl rfl <| gl_op <| op_rd rfl (rd_pick_f rfl rfl) ?_
      refine gl_op <| op_rd rfl (rd_assign rfl) <| gl_nil <| gx_then <| gc_ret <| gx_ret1 (.inl rfl) Tryd.results11 rfl [] (by decide) ?_
      rw [decide_eq_true hg16] at h40; cases h40
    refine gl_op <| op_rd rfl (rd_move rfl) <| gl_no rfl rfl rfl <| gl_no rfl rfl rfl <| gl_no rfl rfl rfl <| gl_no rfl rfl rfl <| gl_no rfl rfl rfl <| gl_op <| op_rd rfl (rd_pick_f rfl rfl) <| gl_op <| op_rd rfl (rd_move rfl) <| gl_no rfl rfl rfl <| gl_no rfl rfl rfl <| gl_no rfl rfl rfl <| gl_no rfl rfl rfl <| gl_op <| op_rd rfl (rd_pick_f rfl rfl) <| gl_op <| op_rd rfl (rd_move rfl) <| gl_no rfl rfl rfl <| gl_no rfl rfl rfl <| gl_no rfl rfl rfl <| gl_no rfl rfl rfl <| gl_op <| op_rd rfl (rd_pick_f rfl rfl) <| gl_op <| op_rd rfl (rd_move rfl) <| gl_no rfl rfl rfl <| gl_no rfl rfl rfl <| gl_op <| op_rd rfl (rd_pick_f rfl rfl) <| gl_op <| op_rd rfl (rd_move rfl) <| gl_no rfl rfl rfl ?_
    refine gl_no rfl rfl rfl <| gl_op <| op_rd rfl (rd_pick_f rfl rfl) <| gl_op <| op_rd rfl (rd_move rfl) <| gl_no rfl rfl rfl <| gl_no rfl rfl rfl <| gl_op <| op_rd rfl (rd_pick_f rfl rfl) <| gl_op <| op_rd rfl (rd_assign rfl) <| gl_nil <| gx_then <| gc_ret <| gx_ret1 (.inl rfl) Tryd.results11 rfl [] (by decide) ?_
    exact absurd rfl h34
  refine (op_alloc ty_44 rfl rfl (fun b6 => ?_))
  refine ga_only 0 (bm 10 135) rfl rfl (by kernel_rfl) (by kernel_rfl) (.inr ⟨[1, 2, 3, 4, 5, 6, 7, 8, 9, 10, 11, 12, 13, 14, 15, 16, 17, 18, 19, 20, 21, 22, 23, 24], by decide, rfl⟩) (op_call rfl (vf := []) (vc := []) rfl rfl Tryd.call27 (fun w1 ho => ex12_ok w1) ?_)
  rintro _ _ ⟨be26, d26, r26, pa26, pb26, pc26, t26, c26, cc26, rfl, rfl⟩
  refine ga_only 3 (bm 10 143) rfl rfl (by kernel_rfl) (by kernel_rfl) (.inr ⟨[9, 10, 11, 12, 13, 14, 15, 16, 17, 18, 19, 20, 21, 22, 23, 24, 25, 26, 27, 28, 29, 30, 31, 32], by decide, rfl⟩) (op_call rfl (vf := []) (vc := []) rfl rfl Tryd.call17 (fun w1 ho => Why_ok (ex12 d26 r26 pa26 pb26 pc26 t26 c26 cc26) (exHN (rowA (some b9)) (rowA (some b8)) (rowA (some b10)) (rowA (some b11))).hd ex_le ex_hle 0 72 w1 (ex_in (ho.rowSl 7 rfl) (ho.rowSl 6 rfl) (ho.rowSl 2 rfl) (ho.rowSl 1 rfl) (ho.rowSl 5 rfl) (ho.rowSl 4 rfl) (ho.rowSl 3 rfl)) (exh_in (ho.rowSl 31 rfl) (ho.rowSl 32 rfl) (ho.rowSl 30 rfl) (ho.rowSl 29 rfl)) (hT.at ho (by decide))) ?_)
  rintro _ _ hq
  obtain ⟨b29, r29, c29, rfl, rfl⟩ := ex_WhyR hq
  refine ga_first 4 (bm 10 159) rfl rfl rfl rfl (by kernel_rfl) (by kernel_rfl) ⟨[11, 12, 13, 14, 15, 16, 17, 18, 19, 20, 21, 22, 23, 24, 25, 26, 27, 28, 29, 30, 31, 32, 33, 34], by decide, rfl⟩ (qt_rd (rd_move rfl)) ?_
  refine ga_first 5 (bm 10 191) rfl rfl rfl rfl (by kernel_rfl) (by kernel_rfl) ⟨[11, 12, 13, 14, 15, 16, 17, 18, 19, 20, 21, 22, 23, 24, 25, 26, 27, 28, 29, 30, 31, 32, 33, 34], by decide, rfl⟩ (qt_rd (rd_extract rfl rfl)) ?_
  refine ga_first 6 (bm 10 255) rfl rfl rfl rfl (by kernel_rfl) (by kernel_rfl) ⟨[11, 12, 13, 14, 15, 16, 17, 18, 19, 20, 21, 22, 23, 24, 25, 26, 27, 28, 29, 30, 31, 32, 33, 34], by decide, rfl⟩ (qt_rd (rd_extract rfl rfl)) ?_
  refine ga_only 8 (bm 10 511) rfl rfl (by kernel_rfl) (by kernel_rfl) (.inr ⟨[11, 12, 13, 14, 15, 16, 17, 18, 19, 20, 21, 22, 23, 24, 25, 26, 27, 28, 29, 30, 31, 32, 33, 34], by decide, rfl⟩) (op_storeAgg 10 ty_44 rfl rfl rfl rfl rfl rfl (by rfl) ?_)
  refine ga_only 9 (bm 10 1023) rfl rfl (by kernel_rfl) (by kernel_rfl) (.inr ⟨[11, 12, 13, 14, 15, 16, 17, 18, 19, 20, 21, 22, 23, 24, 25, 26, 27, 28, 29, 30, 31, 32, 33, 34], by decide, rfl⟩) (op_rd rfl (rd_assign rfl) ?_)
  refine ga_end (by kernel_rfl) (.inl (by kernel_rfl)) ?_
  refine gx_then <| gc_seq <| gc_region <| gl_op <| op_rd rfl (rd_move rfl) <| gl_op <| op_rd rfl (rd_lenSlice Tryd.underlying28 rfl) <| gl_op (op_rd rfl (rd_eql rfl rfl) (gk_dec (fun h34 => ?_) (fun h34 => ?_)))
  · refine gl_op <| op_rd rfl (rd_move rfl) <| gl_yes rfl rfl <| op_rd rfl (rd_move rfl) <| gl_yes rfl rfl (op_rd rfl (rd_indexRow1 20 rfl Tryd.underlying28 ty_29 rfl rfl (by omega) (by omega)) ?_)
    refine gl_yes rfl rfl <| op_rd rfl (rd_load Tryd.underlying29 rfl rfl (ld_rowN 20 (off := 0) rfl rfl)) <| gl_yes rfl rfl (op_buildSlice (sz := 1) rfl rfl (fun _ => bs_29_3_0_1_2 _ _ _) rfl rfl (fun b39 => ?_))
    unfold KG.cell
    refine gl_yes rfl rfl (op_call rfl (vf := []) (vc := []) rfl rfl Tryd.call16 (fun w1 ho => sameIntsN_ok g16.ks [36, 48, 60] _ _ _ _ (by rw [hg16]; decide) w1 (ho.rowSl 22 rfl) (ho.rowSl 0 rfl)) ?_)
    rintro _ _ ⟨rfl, rfl⟩
    refine gk_bool (fun h40 => ?_) (fun h40 => ?_)
    · refine gl_op <| op_rd rfl (rd_pick_t rfl rfl) <| gl_op <| op_rd rfl (rd_move rfl) <| gl_yes rfl rfl <| op_rd rfl (rd_move rfl) <| gl_yes rfl rfl (op_buildSlice (sz := 1) rfl rfl (fun _ => bs_29_4_0_1_2_3 _ _ _ _) rfl rfl (fun b44 => ?_))
      refine gl_yes rfl rfl (op_call rfl (vf := []) (vc := []) rfl rfl Tryd.call30 (fun w1 ho => flutes_ok [36, 48, 60, 72] _ _ (by decide) w1 (ho.rowSl 0 rfl)) ?_)
      rintro _ _ ⟨r45, c45, rfl, rfl⟩
      refine gl_yes rfl rfl (op_call rfl (vf := []) (vc := []) rfl rfl Tryd.call29 (fun w1 ho => SamePipes_ok (flutesP [36, 48, 60, 72]) (flutesP [36, 48, 60, 72]) _ _ _ _ (by decide) w1 (ho.rowSl 14 rfl) (ho.rowSl 0 rfl)) ?_)
      rintro _ _ ⟨rfl, rfl⟩
      refine gk_bool (fun h46 => ?_) (fun h46 => ?_)
      · refine gl_op <| op_rd rfl (rd_pick_t rfl rfl) <| gl_op <| op_rd rfl (rd_move rfl) <| gl_yes rfl rfl (op_rd rfl (rd_loadAgg Tryd.underlying44 rfl ty_44 rfl (by exact cs_blk 13 (off := 0) (k := 6) rfl rfl) rfl) ?_)
        refine gl_yes rfl rfl (op_buildSlice (sz := 1) rfl rfl (fun _ => bs_29_2_0_1 _ _) rfl rfl (fun b50 => ?_))
        refine gl_yes rfl rfl (op_rd rfl (rd_build rfl (fun _ => bd_44_1_2_4_5 _ _ _ _ _ _)) ?_)
        refine gl_yes rfl rfl (op_call rfl (vf := []) (vc := []) rfl rfl Tryd.call19 (fun w1 ho => SameReason_ok ⟨0, 36, [0, 3], 0, 60, 1⟩ ⟨0, 36, [0, 3], 0, 60, 1⟩ (rowA r29) (rowA (some b50)) c29 2 (by decide) w1 (ho.rowSl 5 rfl) (ho.rowSl 0 rfl)) ?_)
        rintro _ _ ⟨rfl, rfl⟩
        refine gk_bool (fun h52 => ?_) (fun h52 => ?_)
        · refine gl_op <| op_rd rfl (rd_pick_t rfl rfl) <| gl_op <| op_rd rfl (rd_move rfl) <| gl_yes rfl rfl <| op_rd rfl (rd_move rfl) <| gl_yes rfl rfl (op_rd rfl (rd_eql rfl rfl) (gk_dec (fun h56 => ?_) (fun h56 => ?_)))
          · refine gl_op <| op_rd rfl (rd_pick_t rfl rfl) <| gl_op <| op_rd rfl (rd_move rfl) <| gl_yes rfl rfl <| op_rd rfl (rd_move rfl) <| gl_yes rfl rfl (op_rd rfl (rd_eql rfl rfl) (gk_dec (fun h60 => ?_) (fun h60 => ?_)))
            · refine gl_op <| op_rd rfl (rd_pick_t rfl rfl) <| gl_op <| op_rd rfl (rd_move rfl) <| gl_yes rfl rfl <| op_rd rfl (rd_move rfl) <| gl_yes rfl rfl (op_rd rfl (rd_eql rfl rfl) (gk_dec (fun h64 => ?_) (fun h64 => ?_)))
              · refine gl_op <| op_rd rfl (rd_pick_t rfl rfl) <| gl_op <| op_rd rfl (rd_assign rfl) <| gl_nil <| gx_then <| gc_ret <| gx_ret1 (.inl rfl) Tryd.results11 rfl [] (by decide) ?_
                exact ⟨rfl, rfl⟩
              refine gl_op <| op_rd rfl (rd_pick_t rfl rfl) <| gl_op <| op_rd rfl (rd_assign rfl) <| gl_nil <| gx_then <| gc_ret <| gx_ret1 (.inl rfl) Tryd.results11 rfl [] (by decide) ?_
              exact absurd rfl h64
            refine gl_op <| op_rd rfl (rd_pick_t rfl rfl) <| gl_op <| op_rd rfl (rd_move rfl) <| gl_no rfl rfl rfl <| gl_no rfl rfl rfl <| gl_op <| op_rd rfl (rd_pick_f rfl rfl) <| gl_op <| op_rd rfl (rd_assign rfl) <| gl_nil <| gx_then <| gc_ret <| gx_ret1 (.inl rfl) Tryd.results11 rfl [] (by decide) ?_
            exact absurd rfl h60
          refine gl_op <| op_rd rfl (rd_pick_t rfl rfl) <| gl_op <| op_rd rfl (rd_move rfl) <| gl_no rfl rfl rfl <| gl_no rfl rfl rfl <| gl_op <| op_rd rfl (rd_pick_f rfl rfl) <| gl_op <| op_rd rfl (rd_move rfl) <| gl_no rfl rfl rfl <| gl_no rfl rfl rfl <| gl_op <| op_rd rfl (rd_pick_f rfl rfl) <| gl_op <| op_rd rfl (rd_assign rfl) <| gl_nil <| gx_then <| gc_ret <| gx_ret1 (.inl rfl) Tryd.results11 rfl [] (by decide) ?_
          exact absurd rfl h56
        refine gl_op <| op_rd rfl (rd_pick_t rfl rfl) <| gl_op <| op_rd rfl (rd_move rfl) <| gl_no rfl rfl rfl <| gl_no rfl rfl rfl <| gl_op <| op_rd rfl (rd_pick_f rfl rfl) <| gl_op <| op_rd rfl (rd_move rfl) <| gl_no rfl rfl rfl <| gl_no rfl rfl rfl <| gl_op <| op_rd rfl (rd_pick_f rfl rfl) <| gl_op <| op_rd rfl (rd_move rfl) <| gl_no rfl rfl rfl <| gl_no rfl rfl rfl <| gl_op <| op_rd rfl (rd_pick_f rfl rfl) <| gl_op <| op_rd rfl (rd_assign rfl) <| gl_nil <| gx_then <| gc_ret <| gx_ret1 (.inl rfl) Tryd.results11 rfl [] (by decide) ?_
        rw [decide_eq_true rfl] at h52; cases h52
      refine gl_op <| op_rd rfl (rd_pick_t rfl rfl) <| gl_op <| op_rd rfl (rd_move rfl) <| gl_no rfl rfl rfl <| gl_no rfl rfl rfl <| gl_no rfl rfl rfl <| gl_no rfl rfl rfl <| gl_op <| op_rd rfl (rd_pick_f rfl rfl) <| gl_op <| op_rd rfl (rd_move rfl) <| gl_no rfl rfl rfl <| gl_no rfl rfl rfl <| gl_op <| op_rd rfl (rd_pick_f rfl rfl) <| gl_op <| op_rd rfl (rd_move rfl) <| gl_no rfl rfl rfl <| gl_no rfl rfl rfl <| gl_op <| op_rd rfl (rd_pick_f rfl rfl) <| gl_op <| op_rd rfl (rd_move rfl) <| gl_no rfl rfl rfl <| gl_no rfl rfl rfl <| gl_op <| op_rd rfl (rd_pick_f rfl rfl) <| gl_op <| op_rd rfl (rd_assign rfl) <| gl_nil <| gx_then <| gc_ret <| gx_ret1 (.inl rfl) Tryd.results11 rfl [] (by decide) ?_
      rw [decide_eq_true rfl] at h46; cases h46
    refine gl_op <| op_rd rfl (rd_pick_t rfl rfl) <| gl_op <| op_rd rfl (rd_move rfl) <| gl_no rfl rfl rfl <| gl_no rfl rfl rfl <| gl_no rfl rfl rfl <| gl_no rfl rfl rfl <| gl_op <| op_rd rfl (rd_pick_f rfl rfl) <| gl_op <| op_rd rfl (rd_move rfl) <| gl_no rfl rfl rfl <| gl_no rfl rfl rfl <| gl_no rfl rfl rfl <| gl_no rfl rfl rfl <| gl_op <| op_rd rfl (rd_pick_f rfl rfl) <| gl_op <| op_rd rfl (rd_move rfl) <| gl_no rfl rfl rfl <| gl_no rfl rfl rfl <| gl_op <| op_rd rfl (rd_pick_f rfl rfl) <| gl_op <| op_rd rfl (rd_move rfl) <| gl_no rfl rfl rfl <| gl_no rfl rfl rfl <| gl_op <| op_rd rfl (rd_pick_f rfl rfl) <| gl_op <| op_rd rfl (rd_move rfl) <| gl_no rfl rfl rfl <| gl_no rfl rfl rfl <| gl_op <| op_rd rfl (rd_pick_f rfl rfl) ?_
    refine gl_op <| op_rd rfl (rd_assign rfl) <| gl_nil <| gx_then <| gc_ret <| gx_ret1 (.inl rfl) Tryd.results11 rfl [] (by decide) ?_
    rw [decide_eq_true hg16] at h40; cases h40
  refine gl_op <| op_rd rfl (rd_move rfl) <| gl_no rfl rfl rfl <| gl_no rfl rfl rfl <| gl_no rfl rfl rfl <| gl_no rfl rfl rfl <| gl_no rfl rfl rfl <| gl_op <| op_rd rfl (rd_pick_f rfl rfl) <| gl_op <| op_rd rfl (rd_move rfl) <| gl_no rfl rfl rfl <| gl_no rfl rfl rfl <| gl_no rfl rfl rfl <| gl_no rfl rfl rfl <| gl_op <| op_rd rfl (rd_pick_f rfl rfl) <| gl_op <| op_rd rfl (rd_move rfl) <| gl_no rfl rfl rfl <| gl_no rfl rfl rfl <| gl_no rfl rfl rfl <| gl_no rfl rfl rfl <| gl_op <| op_rd rfl (rd_pick_f rfl rfl) <| gl_op <| op_rd rfl (rd_move rfl) <| gl_no rfl rfl rfl <| gl_no rfl rfl rfl <| gl_op <| op_rd rfl (rd_pick_f rfl rfl) <| gl_op <| op_rd rfl (rd_move rfl) <| gl_no rfl rfl rfl ?_
  refine gl_no rfl rfl rfl <| gl_op <| op_rd rfl (rd_pick_f rfl rfl) <| gl_op <| op_rd rfl (rd_move rfl) <| gl_no rfl rfl rfl <| gl_no rfl rfl rfl <| gl_op <| op_rd rfl (rd_pick_f rfl rfl) <| gl_op <| op_rd rfl (rd_assign rfl) <| gl_nil <| gx_then <| gc_ret <| gx_ret1 (.inl rfl) Tryd.results11 rfl [] (by decide) ?_
  exact absurd rfl h34
end Go.Proofs.YtbjijbbkfgcleaaDoor
namespace Go.Proofs.YtbjijbbkfgcleaaDoor
open Go.Gv
open Go.RowKit
open Go.Sn
open Sx
end Go.Proofs.YtbjijbbkfgcleaaDoor
namespace Go.Proofs.YtbjijbbkfgcleaaDoor
open Go.Gv
open Go.RowKit
open Go.Sn
open Go.Deep Go.ChangeShapes Go.WideShapes
namespace Sx
section
variable {H : Type} {enc : TypeId × Value → H} {W : World} {base : Nat} {sp : Nat → Bool} {held : Bool}
theorem openFeet {n : Nat} {u v : Value} {x : DataW H × List MemPlace} (h : DataW.trod enc Tryd.prog W base sp held n 54 [u, v] = some x) (hw : ∀ b ∈ x.1.weights Tryd.prog 54, b ≤ reachBytes) : ∃ p q : Int, [u, v] = [.int .i64 p, .int .i64 q] := by
  obtain ⟨k, hl, hf⟩ := fld Tryd.underlying54 h hw
  obtain ⟨y0, t0, _⟩ := hf 0 _ 1 rfl (by kernel_rfl)
  obtain ⟨y1, t1, _⟩ := hf 1 _ 1 rfl (by kernel_rfl)
  obtain ⟨p, rfl⟩ := leafI Tryd.underlying3 (show DataW.trod enc Tryd.prog W base sp held k 3 [u] = some y0 from t0)
  obtain ⟨q, rfl⟩ := leafI Tryd.underlying3 (show DataW.trod enc Tryd.prog W base sp held k 3 [v] = some y1 from t1)
  exact ⟨p, q, rfl⟩
theorem openDv {n : Nat} {cs : List Value} {x : DataW H × List MemPlace} (h : DataW.trod enc Tryd.prog W base sp held n 65 cs = some x) (hw : ∀ b ∈ x.1.weights Tryd.prog 65, b ≤ reachBytes) : ∃ g : Dv, cs = g.cells ∧ g.name.size ≤ 140737488355328 := by
  obtain ⟨k, hl, hf⟩ := fld Tryd.underlying65 h hw
  rw [show Tryd.prog.cellsOf 65 = 3 by kernel_rfl] at hl
  obtain ⟨u0, u1, u2, rfl⟩ := len3 hl
  obtain ⟨y0, t0, w0⟩ := hf 0 _ 1 rfl (by kernel_rfl)
  replace t0 : DataW.trod enc Tryd.prog W base sp held k 9 [u0] = some y0 := t0
  obtain ⟨z0, rfl, b0⟩ := leafS Tryd.underlying9 t0 w0
  obtain ⟨y1, t1, w1⟩ := hf 1 _ 1 rfl (by kernel_rfl)
  replace t1 : DataW.trod enc Tryd.prog W base sp held k 3 [u1] = some y1 := t1
  obtain ⟨z1, rfl⟩ := leafI Tryd.underlying3 t1
  obtain ⟨y2, t2, w2⟩ := hf 2 _ 1 rfl (by kernel_rfl)
  replace t2 : DataW.trod enc Tryd.prog W base sp held k 3 [u2] = some y2 := t2
  obtain ⟨z2, rfl⟩ := leafI Tryd.underlying3 t2
  exact ⟨⟨z0, z1, z2⟩, rfl, b0⟩
theorem openRk {n : Nat} {cs : List Value} {x : DataW H × List MemPlace} (h : DataW.trod enc Tryd.prog W base sp held n 81 cs = some x) (hw : ∀ b ∈ x.1.weights Tryd.prog 81, b ≤ reachBytes) : ∃ g : Rk, cs = g.cells ∧ g.name.size ≤ 140737488355328 := by
  obtain ⟨k, hl, hf⟩ := fld Tryd.underlying81 h hw
  rw [show Tryd.prog.cellsOf 81 = 6 by kernel_rfl] at hl
  obtain ⟨u0, u1, u2, u3, u4, u5, rfl⟩ := len6 hl
  obtain ⟨y0, t0, w0⟩ := hf 0 _ 1 rfl (by kernel_rfl)
  replace t0 : DataW.trod enc Tryd.prog W base sp held k 9 [u0] = some y0 := t0
  obtain ⟨z0, rfl, b0⟩ := leafS Tryd.underlying9 t0 w0
  obtain ⟨y1, t1, w1⟩ := hf 1 _ 1 rfl (by kernel_rfl)
  replace t1 : DataW.trod enc Tryd.prog W base sp held k 3 [u1] = some y1 := t1
  obtain ⟨z1, rfl⟩ := leafI Tryd.underlying3 t1
  obtain ⟨y2, t2, w2⟩ := hf 2 _ 2 rfl (by kernel_rfl)
  replace t2 : DataW.trod enc Tryd.prog W base sp held k 54 [u2, u3] = some y2 := t2
  obtain ⟨p2, q2, e2⟩ := openFeet t2 w2
  simp only [List.cons.injEq, and_true] at e2
  obtain ⟨rfl, rfl⟩ := e2
  obtain ⟨y3, t3, w3⟩ := hf 3 _ 1 rfl (by kernel_rfl)
  replace t3 : DataW.trod enc Tryd.prog W base sp held k 3 [u4] = some y3 := t3
  obtain ⟨z3, rfl⟩ := leafI Tryd.underlying3 t3
  obtain ⟨y4, t4, w4⟩ := hf 4 _ 1 rfl (by kernel_rfl)
  replace t4 : DataW.trod enc Tryd.prog W base sp held k 3 [u5] = some y4 := t4
  obtain ⟨z4, rfl⟩ := leafI Tryd.underlying3 t4
  exact ⟨⟨z0, z1, p2, q2, z3, z4⟩, rfl, b0⟩
theorem openPt {n : Nat} {cs : List Value} {x : DataW H × List MemPlace} (h : DataW.trod enc Tryd.prog W base sp held n 107 cs = some x) (hw : ∀ b ∈ x.1.weights Tryd.prog 107, b ≤ reachBytes) : ∃ g : Pt, cs = g.cells ∧ True := by
  obtain ⟨k, hl, hf⟩ := fld Tryd.underlying107 h hw
  rw [show Tryd.prog.cellsOf 107 = 4 by kernel_rfl] at hl
  obtain ⟨u0, u1, u2, u3, rfl⟩ := len4 hl
  obtain ⟨y0, t0, w0⟩ := hf 0 _ 1 rfl (by kernel_rfl)
  replace t0 : DataW.trod enc Tryd.prog W base sp held k 3 [u0] = some y0 := t0
  obtain ⟨z0, rfl⟩ := leafI Tryd.underlying3 t0
  obtain ⟨y1, t1, w1⟩ := hf 1 _ 1 rfl (by kernel_rfl)
  replace t1 : DataW.trod enc Tryd.prog W base sp held k 3 [u1] = some y1 := t1
  obtain ⟨z1, rfl⟩ := leafI Tryd.underlying3 t1
  obtain ⟨y2, t2, w2⟩ := hf 2 _ 1 rfl (by kernel_rfl)
  replace t2 : DataW.trod enc Tryd.prog W base sp held k 3 [u2] = some y2 := t2
  obtain ⟨z2, rfl⟩ := leafI Tryd.underlying3 t2
  obtain ⟨y3, t3, w3⟩ := hf 3 _ 1 rfl (by kernel_rfl)
  replace t3 : DataW.trod enc Tryd.prog W base sp held k 3 [u3] = some y3 := t3
  obtain ⟨z3, rfl⟩ := leafI Tryd.underlying3 t3
  exact ⟨⟨z0, z1, z2, z3⟩, rfl, trivial⟩
theorem openPts {n : Nat} {cs : List Value} {x : DataW H × List MemPlace} (h : DataW.trod enc Tryd.prog W base sp held n 55 cs = some x) (hw : ∀ b ∈ x.1.weights Tryd.prog 55, b ≤ reachBytes) :
    ∃ (a : Option Addr) (gs : List Pt) (cp : Nat), cs = [.slice a gs.length cp] ∧ OldSl W [] a gs.length 4 (gs.flatMap Pt.cells) ∧ gs.length ≤ 140737488355328 ∧ gs.length ≤ cp ∧ ∀ g ∈ gs, (fun _ => True) g :=
  openSlW Pt.cells (fun _ => True) 4 55 107 32 (fun _ => rfl) (by decide) Tryd.underlying55 (by kernel_rfl) (by kernel_rfl) (by decide) (fun n cs x h hw => openPt h hw) h hw
def StG (W : World) (g : St) : Prop := g.name.size ≤ 140737488355328 ∧ OldSl W [] g.pa g.ps.length 4 (g.ps.flatMap Pt.cells) ∧ g.ps.length ≤ 140737488355328 ∧ g.ps.length ≤ g.pc
theorem openSt {n : Nat} {cs : List Value} {x : DataW H × List MemPlace} (h : DataW.trod enc Tryd.prog W base sp held n 57 cs = some x) (hw : ∀ b ∈ x.1.weights Tryd.prog 57, b ≤ reachBytes) : ∃ g : St, cs = g.cells ∧ StG W g := by
  obtain ⟨k, hl, hf⟩ := fld Tryd.underlying57 h hw
  rw [show Tryd.prog.cellsOf 57 = 5 by kernel_rfl] at hl
  obtain ⟨u0, u1, u2, u3, u4, rfl⟩ := len5 hl
  obtain ⟨y0, t0, w0⟩ := hf 0 _ 1 rfl (by kernel_rfl)
  replace t0 : DataW.trod enc Tryd.prog W base sp held k 9 [u0] = some y0 := t0
  obtain ⟨z0, rfl, b0⟩ := leafS Tryd.underlying9 t0 w0
  obtain ⟨y1, t1, w1⟩ := hf 1 _ 1 rfl (by kernel_rfl)
  replace t1 : DataW.trod enc Tryd.prog W base sp held k 3 [u1] = some y1 := t1
  obtain ⟨z1, rfl⟩ := leafI Tryd.underlying3 t1
  obtain ⟨y2, t2, w2⟩ := hf 2 _ 2 rfl (by kernel_rfl)
  replace t2 : DataW.trod enc Tryd.prog W base sp held k 54 [u2, u3] = some y2 := t2
  obtain ⟨p2, q2, e2⟩ := openFeet t2 w2
  simp only [List.cons.injEq, and_true] at e2
  obtain ⟨rfl, rfl⟩ := e2
  obtain ⟨y3, t3, w3⟩ := hf 3 _ 1 rfl (by kernel_rfl)
  replace t3 : DataW.trod enc Tryd.prog W base sp held k 55 [u4] = some y3 := t3
  obtain ⟨a3, l3, c3, e3, s3, m3, o3, g3⟩ := openPts t3 w3
  simp only [List.cons.injEq, and_true] at e3
  subst e3
  exact ⟨⟨z0, z1, p2, q2, a3, c3, l3⟩, rfl, b0, s3, m3, o3⟩
theorem openCp {n : Nat} {cs : List Value} {x : DataW H × List MemPlace} (h : DataW.trod enc Tryd.prog W base sp held n 67 cs = some x) (hw : ∀ b ∈ x.1.weights Tryd.prog 67, b ≤ reachBytes) : ∃ g : Cp, cs = g.cells ∧ g.name.size ≤ 140737488355328 := by
  obtain ⟨k, hl, hf⟩ := fld Tryd.underlying67 h hw
  rw [show Tryd.prog.cellsOf 67 = 6 by kernel_rfl] at hl
  obtain ⟨u0, u1, u2, u3, u4, u5, rfl⟩ := len6 hl
  obtain ⟨y0, t0, w0⟩ := hf 0 _ 1 rfl (by kernel_rfl)
  replace t0 : DataW.trod enc Tryd.prog W base sp held k 9 [u0] = some y0 := t0
  obtain ⟨z0, rfl, b0⟩ := leafS Tryd.underlying9 t0 w0
  obtain ⟨y1, t1, w1⟩ := hf 1 _ 1 rfl (by kernel_rfl)
  replace t1 : DataW.trod enc Tryd.prog W base sp held k 3 [u1] = some y1 := t1
  obtain ⟨z1, rfl⟩ := leafI Tryd.underlying3 t1
  obtain ⟨y2, t2, w2⟩ := hf 2 _ 1 rfl (by kernel_rfl)
  replace t2 : DataW.trod enc Tryd.prog W base sp held k 3 [u2] = some y2 := t2
  obtain ⟨z2, rfl⟩ := leafI Tryd.underlying3 t2
  obtain ⟨y3, t3, w3⟩ := hf 3 _ 1 rfl (by kernel_rfl)
  replace t3 : DataW.trod enc Tryd.prog W base sp held k 3 [u3] = some y3 := t3
  obtain ⟨z3, rfl⟩ := leafI Tryd.underlying3 t3
  obtain ⟨y4, t4, w4⟩ := hf 4 _ 1 rfl (by kernel_rfl)
  replace t4 : DataW.trod enc Tryd.prog W base sp held k 3 [u4] = some y4 := t4
  obtain ⟨z4, rfl⟩ := leafI Tryd.underlying3 t4
  obtain ⟨y5, t5, w5⟩ := hf 5 _ 1 rfl (by kernel_rfl)
  replace t5 : DataW.trod enc Tryd.prog W base sp held k 4 [u5] = some y5 := t5
  obtain ⟨z5, rfl⟩ := leafB Tryd.underlying4 t5
  exact ⟨⟨z0, z1, z2, z3, z4, z5⟩, rfl, b0⟩
theorem openDvs {n : Nat} {cs : List Value} {x : DataW H × List MemPlace} (h : DataW.trod enc Tryd.prog W base sp held n 22 cs = some x) (hw : ∀ b ∈ x.1.weights Tryd.prog 22, b ≤ reachBytes) :
    ∃ (a : Option Addr) (gs : List Dv) (cp : Nat), cs = [.slice a gs.length cp] ∧ OldSl W [] a gs.length 3 (gs.flatMap Dv.cells) ∧ gs.length ≤ 140737488355328 ∧ gs.length ≤ cp ∧ ∀ g ∈ gs, (fun g : Dv => g.name.size ≤ 140737488355328) g :=
  openSlW Dv.cells (fun g : Dv => g.name.size ≤ 140737488355328) 3 22 65 32 (fun _ => rfl) (by decide) Tryd.underlying22 (by kernel_rfl) (by kernel_rfl) (by decide) (fun n cs x h hw => openDv h hw) h hw
theorem openRks {n : Nat} {cs : List Value} {x : DataW H × List MemPlace} (h : DataW.trod enc Tryd.prog W base sp held n 23 cs = some x) (hw : ∀ b ∈ x.1.weights Tryd.prog 23, b ≤ reachBytes) :
    ∃ (a : Option Addr) (gs : List Rk) (cp : Nat), cs = [.slice a gs.length cp] ∧ OldSl W [] a gs.length 6 (gs.flatMap Rk.cells) ∧ gs.length ≤ 140737488355328 ∧ gs.length ≤ cp ∧ ∀ g ∈ gs, (fun g : Rk => g.name.size ≤ 140737488355328) g :=
  openSlW Rk.cells (fun g : Rk => g.name.size ≤ 140737488355328) 6 23 81 56 (fun _ => rfl) (by decide) Tryd.underlying23 (by kernel_rfl) (by kernel_rfl) (by decide) (fun n cs x h hw => openRk h hw) h hw
theorem openSts {n : Nat} {cs : List Value} {x : DataW H × List MemPlace} (h : DataW.trod enc Tryd.prog W base sp held n 24 cs = some x) (hw : ∀ b ∈ x.1.weights Tryd.prog 24, b ≤ reachBytes) :
    ∃ (a : Option Addr) (gs : List St) (cp : Nat), cs = [.slice a gs.length cp] ∧ OldSl W [] a gs.length 5 (gs.flatMap St.cells) ∧ gs.length ≤ 140737488355328 ∧ gs.length ≤ cp ∧ ∀ g ∈ gs, (StG W) g :=
  openSlW St.cells (StG W) 5 24 57 64 (fun _ => rfl) (by decide) Tryd.underlying24 (by kernel_rfl) (by kernel_rfl) (by decide) (fun n cs x h hw => openSt h hw) h hw
theorem openCps {n : Nat} {cs : List Value} {x : DataW H × List MemPlace} (h : DataW.trod enc Tryd.prog W base sp held n 25 cs = some x) (hw : ∀ b ∈ x.1.weights Tryd.prog 25, b ≤ reachBytes) :
    ∃ (a : Option Addr) (gs : List Cp) (cp : Nat), cs = [.slice a gs.length cp] ∧ OldSl W [] a gs.length 6 (gs.flatMap Cp.cells) ∧ gs.length ≤ 140737488355328 ∧ gs.length ≤ cp ∧ ∀ g ∈ gs, (fun g : Cp => g.name.size ≤ 140737488355328) g :=
  openSlW Cp.cells (fun g : Cp => g.name.size ≤ 140737488355328) 6 25 67 56 (fun _ => rfl) (by decide) Tryd.underlying25 (by kernel_rfl) (by kernel_rfl) (by decide) (fun n cs x h hw => openCp h hw) h hw
theorem openOrg {n : Nat} {cs : List Value} {x : DataW H × List MemPlace} (h : DataW.trod enc Tryd.prog W base sp held n 27 cs = some x) (hw : ∀ b ∈ x.1.weights Tryd.prog 27, b ≤ reachBytes) : ∃ g : Org, cs = g.cells ∧ OrgIn g W [] ∧ OrgLe g := by
  obtain ⟨k, hl, hf⟩ := fld Tryd.underlying27 h hw
  rw [show Tryd.prog.cellsOf 27 = 4 by kernel_rfl] at hl
  obtain ⟨u0, u1, u2, u3, rfl⟩ := len4 hl
  obtain ⟨y0, t0, w0⟩ := hf 0 _ 1 rfl (by kernel_rfl)
  replace t0 : DataW.trod enc Tryd.prog W base sp held k 22 [u0] = some y0 := t0
  obtain ⟨a0, l0, c0, e0, s0, m0, o0, g0⟩ := openDvs t0 w0
  simp only [List.cons.injEq, and_true] at e0
  subst e0
  obtain ⟨y1, t1, w1⟩ := hf 1 _ 1 rfl (by kernel_rfl)
  replace t1 : DataW.trod enc Tryd.prog W base sp held k 23 [u1] = some y1 := t1
  obtain ⟨a1, l1, c1, e1, s1, m1, o1, g1⟩ := openRks t1 w1
  simp only [List.cons.injEq, and_true] at e1
  subst e1
  obtain ⟨y2, t2, w2⟩ := hf 2 _ 1 rfl (by kernel_rfl)
  replace t2 : DataW.trod enc Tryd.prog W base sp held k 24 [u2] = some y2 := t2
  obtain ⟨a2, l2, c2, e2, s2, m2, o2, g2⟩ := openSts t2 w2
  simp only [List.cons.injEq, and_true] at e2
  subst e2
  obtain ⟨y3, t3, w3⟩ := hf 3 _ 1 rfl (by kernel_rfl)
  replace t3 : DataW.trod enc Tryd.prog W base sp held k 25 [u3] = some y3 := t3
  obtain ⟨a3, l3, c3, e3, s3, m3, o3, g3⟩ := openCps t3 w3
  simp only [List.cons.injEq, and_true] at e3
  subst e3
  exact ⟨⟨a0, c0, l0, a1, c1, l1, a2, c2, l2, a3, c3, l3⟩, rfl, ⟨s0, s1, s2, s3, fun x hx => (g2 x hx).2.1⟩, ⟨m0, m1, m2, m3, fun x hx => (g2 x hx).2.2.1, fun x hx => (g2 x hx).2.2.2, g0, g1, fun x hx => (g2 x hx).1, g3⟩⟩
theorem openIntsW {n : Nat} {cs : List Value} {x : DataW H × List MemPlace} (h : DataW.trod enc Tryd.prog W base sp held n 29 cs = some x) (hw : ∀ b ∈ x.1.weights Tryd.prog 29, b ≤ reachBytes) :
    ∃ (a : Option Addr) (gs : List Int) (cp : Nat), cs = [.slice a gs.length cp] ∧ OldSl W [] a gs.length 1 (gs.flatMap (fun z : Int => [intV z])) ∧ gs.length ≤ 140737488355328 ∧ gs.length ≤ cp ∧ ∀ g ∈ gs, (fun _ => True) g :=
  openSlW (fun z : Int => [intV z]) (fun _ => True) 1 29 3 8 (fun _ => rfl) (by decide) Tryd.underlying29 (by kernel_rfl) (by kernel_rfl) (by decide) (fun n cs x h hw => by
    obtain ⟨z, e, _⟩ := DataW.trod_int Tryd.underlying3 h
    exact ⟨z, e, trivial⟩) h hw
def KRG (W : World) (g : KR) : Prop := OldSl W [] g.a g.ks.length 1 (g.ks.map intV) ∧ g.ks.length ≤ 140737488355328 ∧ g.ks.length ≤ g.c
theorem openKRs {n : Nat} {cs : List Value} {x : DataW H × List MemPlace} (h : DataW.trod enc Tryd.prog W base sp held n 28 cs = some x) (hw : ∀ b ∈ x.1.weights Tryd.prog 28, b ≤ reachBytes) :
    ∃ (a : Option Addr) (gs : List KR) (cp : Nat), cs = [.slice a gs.length cp] ∧ OldSl W [] a gs.length 1 (gs.flatMap (fun g : KR => [g.cell])) ∧ gs.length ≤ 140737488355328 ∧ gs.length ≤ cp ∧ ∀ g ∈ gs, (KRG W) g :=
  openSlW (fun g : KR => [g.cell]) (KRG W) 1 28 29 24 (fun _ => rfl) (by decide) Tryd.underlying28 (by kernel_rfl) (by kernel_rfl) (by decide) (fun n cs x h hw => by
    obtain ⟨a, gs, cp, rfl, h1, h2, h3, _⟩ := openIntsW h hw
    rw [flat_one intV] at h1
    exact ⟨⟨a, cp, gs⟩, rfl, h1, h2, h3⟩) h hw
theorem openHd {n : Nat} {cs : List Value} {x : DataW H × List MemPlace} (h : DataW.trod enc Tryd.prog W base sp held n 31 cs = some x) (hw : ∀ b ∈ x.1.weights Tryd.prog 31, b ≤ reachBytes) : ∃ g : Hd, cs = g.cells ∧ HdIn g W [] ∧ HdLe g := by
  obtain ⟨k, hl, hf⟩ := fld Tryd.underlying31 h hw
  rw [show Tryd.prog.cellsOf 31 = 3 by kernel_rfl] at hl
  obtain ⟨u0, u1, u2, rfl⟩ := len3 hl
  obtain ⟨y0, t0, w0⟩ := hf 0 _ 1 rfl (by kernel_rfl)
  replace t0 : DataW.trod enc Tryd.prog W base sp held k 28 [u0] = some y0 := t0
  obtain ⟨a0, l0, c0, e0, s0, m0, o0, g0⟩ := openKRs t0 w0
  simp only [List.cons.injEq, and_true] at e0
  subst e0
  obtain ⟨y1, t1, w1⟩ := hf 1 _ 1 rfl (by kernel_rfl)
  replace t1 : DataW.trod enc Tryd.prog W base sp held k 29 [u1] = some y1 := t1
  obtain ⟨a1, l1, c1, e1, s1, m1, o1, g1⟩ := openIntsW t1 w1
  simp only [List.cons.injEq, and_true] at e1
  subst e1
  obtain ⟨y2, t2, w2⟩ := hf 2 _ 1 rfl (by kernel_rfl)
  replace t2 : DataW.trod enc Tryd.prog W base sp held k 29 [u2] = some y2 := t2
  obtain ⟨a2, l2, c2, e2, s2, m2, o2, g2⟩ := openIntsW t2 w2
  simp only [List.cons.injEq, and_true] at e2
  subst e2
  exact ⟨⟨a0, c0, l0, a1, c1, l1, a2, c2, l2⟩, rfl, ⟨by rw [← flat_one KR.cell]; exact s0, fun x hx => (g0 x hx).1, by rw [← flat_one intV]; exact s1, by rw [← flat_one intV]; exact s2⟩, ⟨m0, fun x hx => (g0 x hx).2.1, fun x hx => (g0 x hx).2.2, m1, m2⟩⟩
theorem openPi {n : Nat} {cs : List Value} {x : DataW H × List MemPlace} (h : DataW.trod enc Tryd.prog W base sp held n 42 cs = some x) (hw : ∀ b ∈ x.1.weights Tryd.prog 42, b ≤ reachBytes) : ∃ r0 p0 : Int, cs = [.int .i64 r0, .int .i64 p0] := by
  obtain ⟨k, hl, hf⟩ := fld Tryd.underlying42 h hw
  rw [show Tryd.prog.cellsOf 42 = 2 by kernel_rfl] at hl
  obtain ⟨u, v, rfl⟩ := len2 hl
  obtain ⟨y0, t0, _⟩ := hf 0 _ 1 rfl (by kernel_rfl)
  obtain ⟨y1, t1, _⟩ := hf 1 _ 1 rfl (by kernel_rfl)
  obtain ⟨p, rfl⟩ := leafI Tryd.underlying3 (show DataW.trod enc Tryd.prog W base sp held k 3 [u] = some y0 from t0)
  obtain ⟨q, rfl⟩ := leafI Tryd.underlying3 (show DataW.trod enc Tryd.prog W base sp held k 3 [v] = some y1 from t1)
  exact ⟨p, q, rfl⟩
end
end Sx
end Go.Proofs.YtbjijbbkfgcleaaDoor
namespace Go.Proofs.YtbjijbbkfgcleaaDoor
open Go.Gv
open Go.RowKit
open Go.Sn
open Go.ChangeShapes Go.WideShapes Go.ChangeAt Go.WideMaps Go.WideElems
namespace Sx
theorem tryLaid : laidOutB Tryd.prog = true := by kernel_rfl
theorem tryOwn : ownKnob Tryd.prog.godebug = none := by kernel_rfl
theorem stays {H : Type} {enc : TypeId × Value → H} {W W' : World} (hb : Below W.heap.size W W') {sp : Nat → Bool} : ∀ {ts : List TypeId} {vs : List Value} {ds : List (DataW H)} {p : List MemPlace},
    DataW.TrodAll enc Tryd.prog W 0 (fun _ => true) true ts vs ds p → (∀ t ∈ ts, Tryd.prog.readableRec t = true ∧ t < Tryd.prog.types.size) → (∀ x ∈ p, x.block < W.heap.size) → (∀ x ∈ p, sp x.block = true) → DataW.TrodAll enc Tryd.prog W' 0 sp true ts vs ds p
  | [], _, _, _, h, _, _, _ => by
    obtain ⟨rfl, rfl, rfl⟩ := trodAll_nil h
    exact h
  | t :: ts, _, _, _, h, hr, hlt, hsp => by
    obtain ⟨v, vs1, d, ds1, a, b, rfl, rfl, rfl, h1, h2⟩ := trodAll_cons h
    have hr1 := hr t (by simp)
    exact ⟨a, b, WideElems.Trod_stays tryLaid hr1.1 hr1.2 h1 (fun x hx => hb.same (hlt x (List.mem_append_left _ hx))) (fun x hx => hsp x (List.mem_append_left _ hx)),
      stays hb h2 (fun u hu => hr u (List.mem_cons_of_mem _ hu)) (fun x hx => hlt x (List.mem_append_right _ hx)) (fun x hx => hsp x (List.mem_append_right _ hx)), rfl⟩
set_option maxRecDepth 100000 in
/-- the law's row: it returned true, and nothing that was there has turned -/
theorem law_post {H : Type} {enc : TypeId × Value → H} {f : Func} {s : ChangeSpec} {fresh handsOn again : Bool} {W W' : World} {args : Array Value} {ds gs : List (DataW H)} {before : List MemPlace}
    (hW : DataW.Whole enc Tryd.prog f.params.toList s.vars false W args.toList ds gs before) (hv : s.vars = []) (hb : Below W.heap.size W W')
    (hrt : f.resultTypes = #[4]) (hres : (s.fn H ds).results = [.lit (.bool true)]) (hargs : (s.fn H ds).args = ds) (hvars : (s.fn H ds).vars = []) (hr : ∀ t ∈ f.params.toList, Tryd.prog.readableRec t = true ∧ t < Tryd.prog.types.size) :
    s.post enc Tryd.prog f false fresh handsOn again W args (.bool true) W' := by
  have hlt : ∀ x ∈ before, x.block < W.heap.size := fun x hx => by simpa using hW.lt x hx
  have hW0 := hW
  obtain ⟨p, q, hA, hV, rfl, hz, hn⟩ := hW
  rw [hv] at hV
  obtain ⟨rfl, rfl⟩ := trodVars_none hV
  simp only [List.append_nil] at hz hlt hW0
  have hR : ∀ (b : Nat) (sp : Nat → Bool) (hd : Bool), DataW.TrodAll enc Tryd.prog W' b sp hd f.resultTypes.toList ((Value.bool true).resultList f.resultTypes.size) (s.fn H (ds ++ [])).results [] := fun b sp hd => by
    rw [List.append_nil, hres, hrt]
    exact trodAll_cons_mk (shut_bool Tryd.underlying4 _) trodAll_mk0
  have hA' : ∀ sp : Nat → Bool, (∀ x ∈ p, sp x.block = true) → DataW.TrodAll enc Tryd.prog W' 0 sp true f.params.toList args.toList (s.fn H (ds ++ [])).args p := fun sp hsp => by
    rw [List.append_nil, hargs]; exact stays hb hA hr hlt hsp
  have hVv : ∀ sp : Nat → Bool, DataW.TrodVars enc Tryd.prog W' sp s.vars (s.fn H (ds ++ [])).vars [] := fun sp => by
    rw [List.append_nil, hv, hvars]; rfl
  have hok : ∀ (j : Nat) (t : TypeId) (r : Value), f.resultTypes[j]? = some t → ((Value.bool true).resultList f.resultTypes.size)[j]? = some r → Value.okWide Tryd.prog W' .any 0 t r := ok_one hrt rfl (okWide_bool_mk Tryd.underlying4 _)
  refine ⟨ds, [], p, [], p, [], hW0, hR _ _ _, hA' _ (fun x hx => by simpa using hlt x hx), hVv _, World.keptBut_mono (fun x hx => ⟨hx, .inr (by simpa using hx)⟩) (hb.frame _), fun _ => ?_⟩
  refine ⟨hok, _, _, ([] ++ p) ++ [], ⟨[] ++ p, [], trodAll_append (hA' (fun _ => true) (fun _ _ => rfl)) (hR _ _ _), hVv _, rfl, ?_, fun h => by cases h⟩, ?_⟩
  · intro b off hp
    have hp' : MemPlace.cell b off ∈ p := by simpa using hp
    rw [hb.frozen (p := ⟨b, off, none⟩) (hlt _ hp')]
    exact hz b off hp'
  · intro x hx _
    simpa using hx
set_option maxRecDepth 100000
def laidL : List (String × DataW Unit) := [("math/bits.deBruijn32tab", Rows.laid_math_bits_deBruijn32tab), ("math/bits.deBruijn64tab", Rows.laid_math_bits_deBruijn64tab), ("internal/strconv.uint64pow10", Rows.laid_internal_strconv_uint64pow10)]
theorem door_met (os : Os) (args : Array Value) : laidMetH Tryd.prog laidL ((World.doorLaid Tryd.prog 400 os).forCall (fun _ _ => 0) ⟨#[], args, []⟩).memory :=
  laidMetH_of_parts3 (fuel := 8) (laidMet_of_run' 8 (by kernel_rfl) (by kernel_rfl)) (by kernel_rfl) (by kernel_rfl)
theorem tab_of {W : World} (h : laidMetH Tryd.prog laidL W) : TabIn W := by
  rw [MakeChecks.laidMetH_plain _ _ _ (by kernel_rfl)] at h
  obtain ⟨ps, ⟨g0, t0, cs0, f0, p0, q0, hg0, ht0, hv0, hd0, ⟨g1, t1, cs1, f1, p1, q1, hg1, ht1, hv1, hd1, ⟨g2, t2, cs2, f2, p2, q2, hg2, ht2, hv2, hd2, _⟩, _⟩, _⟩, _, _⟩ := h
  obtain rfl := Option.some.inj ((show Tryd.prog.globalNamed "math/bits.deBruijn64tab" = some 0 by kernel_rfl).symm.trans hg1)
  obtain rfl := Option.some.inj ((show (Tryd.prog.globals[0]?).map (·.type) = some 162 by kernel_rfl).symm.trans ht1)
  intro i hi
  have h1 := arr_cells (l := tab64) Tryd.underlying162 Tryd.underlying5 (by kernel_rfl) hd1 i hi
  have h2 := World.var?_cell hg1 hv1 i
  rw [show ((⟨0, 0, none⟩ : Addr).add i) = ⟨0, i, none⟩ by rw [Addr.add_lit, Nat.zero_add], h2, ← Array.getElem?_toList]
  exact h1
end Sx
end Go.Proofs.YtbjijbbkfgcleaaDoor
namespace Go.Proofs.YtbjijbbkfgcleaaDoor
open Go.Gv
open Go.RowKit
open Go.Sn
open Sx
namespace Sx
theorem count_le {s : Org} (h : (checkP s).2 = 0) {i : Nat} {x : Rk} (hx : s.rs[i]? = some x) : 1 ≤ x.count ∧ x.count ≤ 97 := by
  have h1 := (checkP_facts h).2.2.1 i (List.getElem?_eq_some_iff.1 hx).1
  have h2 := rkBad_no (rkErr_ok h1)
  rw [getD_some hx] at h2
  exact ⟨h2.2.2.1, h2.2.2.2.1⟩
theorem ranks_le {s : Org} (h : (checkP s).2 = 0) : s.rs.length ≤ 40 ∧ s.ds.length ≤ 6 := by
  have h1 := (checkP_facts h).1
  unfold longB at h1
  simp only [Bool.or_eq_false_iff, decide_eq_false_iff_not] at h1
  omega
theorem range_le {s : Org} (h : (checkP s).2 = 0) {i : Nat} {x : Dv} (hx : s.ds[i]? = some x) : 0 ≤ x.lo ∧ x.lo ≤ x.hi ∧ x.hi ≤ 127 := by
  have h1 := (checkP_facts h).2.1 i (List.getElem?_eq_some_iff.1 hx).1
  have h2 := dvBad_no (dvErr_ok h1)
  rw [getD_some hx] at h2
  exact ⟨h2.1, h2.2.2.1, h2.2.2.2.1⟩
end Sx
open Sx
set_option maxRecDepth 100000 in
set_option maxHeartbeats 1000000 in
theorem in_ok (xs : List Nat) (z : Nat) (a : Option Addr) (cp : Nat) (hl : xs.length ≤ 140737488355328) (w0 : World) (hx : OldSl w0 [] a xs.length 1 (xs.map natV)) : Sp Tryd.prog 22 [.slice a xs.length cp, natV z] w0 [] (RV (.bool (decide (z ∈ xs)))) := by
  refine spec_enter Tryd.func22 rfl Tryd.ntmps22 rfl (Own.refl _) ?_
  simp only [argEnv]
  refine gc_seq <| gc_region <| gl_op <| op_rd rfl (rd_assign rfl) <| gl_nil <| gx_then <| gc_seq <| gc_seq <| gc_region <| gl_op <| op_rd rfl (rd_assign rfl) <| gl_nil <| gx_then <| gc_block <| gc_loopF (ι := Nat) [(0, _), (1, _)] [] (fun k => k ≤ xs.length ∧ z ∉ xs.take k) (fun k Fr0 => ((5, natV k) :: Fr0)) (fun k Fr0 => Fr0) (fun k => xs.length - k) 0 (⟨Nat.zero_le _, by simp⟩) ⟨rfl, rfl, rfl, trivial⟩ ⟨[], by decide, rfl⟩ ?_
  rintro k ⟨hk, hno⟩
  refine gc_seq <| gc_seq <| gc_region <| gl_op <| op_rd rfl (rd_move rfl) <| gl_op <| op_rd rfl (rd_move rfl) <| gl_op <| op_rd rfl (rd_lenSlice Tryd.underlying29 rfl) <| gl_op (op_rd rfl (rd_lss rfl rfl) (gk_dec (fun h9 => ?_) (fun h9 => ?_)))
  · obtain ⟨u, hu⟩ := get_some (show k < xs.length by omega)
    refine gl_nil <| gx_then <| gc_cond_t rfl <| gc_skip <| gx_then <| gc_seq <| gc_block <| gc_seq <| gc_region <| gl_op <| op_rd rfl (rd_move rfl) <| gl_op <| op_rd rfl (rd_move rfl) <| gl_op (op_rd rfl (rd_indexOld1 hx Tryd.underlying29 ty_3 rfl rfl (by omega) (by omega)) ?_)
    refine gl_op <| op_rd rfl (rd_load Tryd.underlying3 rfl rfl (ld_slN hx (get_nz hu))) <| gl_op <| op_rd rfl (rd_move rfl) <| gl_op (op_rd rfl (rd_eql rfl rfl) (gk_dec (fun h17 => ?_) (fun h17 => ?_)))
    · refine gl_nil <| gx_then <| gc_cond_t rfl <| gc_seq <| gc_region <| gl_op <| op_rd rfl (rd_assign rfl) <| gl_nil <| gx_then <| gc_ret <| gx_block_ret <| gx_then_ret <| gx_then_ret <| gx_block_ret <| gx_then_ret <| gx_ret1 (.inl rfl) Tryd.results22 rfl [] (by decide) ?_
      refine ⟨congrArg Value.bool (Eq.symm ?_), rfl⟩
      exact decide_eq_true (by rw [show z = u by omega]; exact List.mem_of_getElem? hu)
    refine gl_nil <| gx_then <| gc_cond_f rfl <| gc_skip <| gx_block <| gx_then <| gc_region <| gl_op <| op_rd rfl (rd_move rfl) <| gl_op (op_rd rfl (by exact rd_addN (b := 1) rfl rfl (by omega)) ?_)
    refine gl_op <| op_rd rfl (rd_assign rfl) <| gl_nil <| gx_then ?_
    exact gx_cut (k + 1) ⟨⟨by omega, by rw [take_at hu]; simp only [List.mem_append, List.mem_singleton]; rintro (h | h); exact hno h; omega⟩, by omega⟩ ⟨rfl, rfl, rfl, trivial⟩ ⟨[], by decide, rfl⟩
  refine gl_nil <| gx_then <| gc_cond_f rfl <| gc_exit <| gx_then_exit <| gx_then_exit <| gx_block_exit <| gx_then <| gc_seq <| gc_region <| gl_op <| op_rd rfl (rd_assign rfl) <| gl_nil <| gx_then <| gc_ret <| gx_ret1 (.inl rfl) Tryd.results22 rfl [] (by decide) ?_
  refine ⟨congrArg Value.bool (Eq.symm ?_), rfl⟩
  rw [List.take_of_length_le (by omega)] at hno
  exact decide_eq_false hno
set_option maxRecDepth 100000 in
set_option maxHeartbeats 1000000 in
theorem rPipes_ok (s : Org) (hle : OrgLe s) (w0 : World) (hS : OrgIn s w0 []) : Sp Tryd.prog 43 [s.val] w0 [] (fun v L => ∃ n e : Int, v = .tuple #[.int .i64 n, .int .i64 e] ∧ L = [] ∧ 0 ≤ n ∧ n ≤ 4000 ∧ (e = 0 → (checkP s).2 = 0)) := by
  refine spec_enter Tryd.func43 rfl Tryd.ntmps43 rfl (Own.refl _) ?_
  simp only [argEnv]
  refine gc_seq <| gc_region <| gl_op (op_box rfl rfl rfl (fun b1 => ?_))
  refine gl_op <| op_rd rfl (rd_assign rfl) <| gl_op <| op_rd rfl (rd_assign rfl) <| gl_nil <| gx_then <| gc_seq <| gc_region <| gl_op (op_rd rfl (rd_loadAgg Tryd.underlying27 rfl ty_27 rfl (by exact cs_blk 0 (off := 0) (k := 4) rfl rfl) rfl) ?_)
  refine gl_op (op_call rfl (vf := []) (vc := []) rfl rfl Tryd.call37 (fun w1 ho => rCheck_ok s hle w1 (hS.at ho)) ?_)
  rintro _ _ ⟨rfl, rfl⟩
  refine gl_op <| op_rd rfl (rd_move rfl) <| gl_op <| op_rd rfl (rd_extract rfl rfl) <| gl_op <| op_rd rfl (rd_extract rfl rfl) <| gl_op (op_alloc ty_98 rfl rfl (fun b4 => ?_))
  refine gl_op (op_storeAgg 0 ty_98 rfl rfl rfl rfl rfl rfl (by rfl) ?_)
  refine gl_op <| op_rd rfl (rd_assign rfl) <| gl_nil <| gx_then <| gc_seq <| gc_seq <| gc_region <| gl_op <| op_rd rfl (rd_move rfl) <| gl_op (op_rd rfl (rd_neq rfl rfl) (gk_dec (fun h14 => ?_) (fun h14 => ?_)))
  · refine gl_nil <| gx_then <| gc_cond_t rfl <| gc_seq <| gc_region <| gl_op <| op_rd rfl (rd_move rfl) <| gl_op <| op_rd rfl (rd_assign rfl) <| gl_op <| op_rd rfl (rd_assign rfl) <| gl_nil <| gx_then <| gc_ret <| gx_then_ret <| gx_ret2 (.inl rfl) Tryd.results43 rfl rfl [] (by decide) ?_
    exact ⟨0, _, rfl, rfl, by omega, by omega, fun h => absurd h (by omega)⟩
  have hck : (checkP s).2 = 0 := by omega
  have hrk := ranks_le hck
  refine gl_nil <| gx_then <| gc_cond_f rfl <| gc_skip <| gx_then <| gc_seq <| gc_region <| gl_op <| op_rd rfl (rd_assign rfl) <| gl_nil <| gx_then <| gc_seq <| gc_seq <| gc_region <| gl_op <| op_rd rfl (rd_assign rfl) <| gl_nil <| gx_then <| gc_block <| gc_loopF (ι := Nat × Int) [(1, _)] [_, _] (fun q => q.1 ≤ s.rs.length ∧ 0 ≤ q.2 ∧ q.2 ≤ 97 * q.1) (fun q Fr0 => ((6, .int .i64 q.2) :: (7, natV q.1) :: Fr0)) (fun q Fr0 => Fr0) (fun q => s.rs.length - q.1) (0, 0) (⟨Nat.zero_le _, by simp, by simp⟩) ⟨rfl, rfl, rfl, trivial⟩ ⟨[0, 1], by decide, rfl⟩ ?_
  rintro ⟨k, n⟩ ⟨hk, hn0, hn1⟩
  simp only at hk hn0 hn1 ⊢
  refine gc_seq <| gc_seq <| gc_region <| gl_op <| op_rd rfl (rd_move rfl) <| gl_op <| op_rd rfl (rd_fieldAddr rfl (fa_27_1 _)) <| gl_op (op_rd rfl (rd_load Tryd.underlying23 rfl rfl (by exact ld_blk 1 rfl rfl)) ?_)
  refine gl_op <| op_rd rfl (rd_lenSlice Tryd.underlying23 rfl) <| gl_op (op_rd rfl (rd_lss rfl rfl) (gk_dec (fun h20 => ?_) (fun h20 => ?_)))
  · obtain ⟨x, hx⟩ := get_some (show k < s.rs.length by omega)
    have hxc := count_le hck hx
    refine gl_nil <| gx_then <| gc_cond_t rfl <| gc_skip <| gx_then <| gc_seq <| gc_block <| gc_region <| gl_op <| op_rd rfl (rd_move rfl) <| gl_op <| op_rd rfl (rd_fieldAddr rfl (fa_27_1 _)) <| gl_op (op_rd rfl (rd_load Tryd.underlying23 rfl rfl (by exact ld_blk 1 rfl rfl)) ?_)
    refine gl_op <| op_rd rfl (rd_move rfl) <| gl_op (op_rd rfl (rd_indexOld hS.r Tryd.underlying23 ty_81 rfl rfl (by omega) (by omega)) ?_)
    refine gl_op <| op_rd rfl (rd_fieldAddr rfl (fa_81_4 _)) <| gl_op (op_rd rfl (rd_load Tryd.underlying3 rfl rfl (ld_slf hS.r (get_flat Rk.cells 6 (fun _ => rfl) hx (j := 5) (by decide) rfl))) ?_)
    refine gl_op (op_rd rfl (rd_add rfl rfl (by omega) (by omega)) ?_)
    refine gl_op <| op_rd rfl (rd_assign rfl) <| gl_nil <| gx_block <| gx_then <| gc_region <| gl_op <| op_rd rfl (rd_move rfl) <| gl_op (op_rd rfl (by exact rd_addN (b := 1) rfl rfl (by omega)) ?_)
    refine gl_op <| op_rd rfl (rd_assign rfl) <| gl_nil <| gx_then ?_
    exact gx_cut ((k + 1, n + x.count)) ⟨⟨by simp only; omega, by simp only; omega, by simp only; omega⟩, by simp only; omega⟩ ⟨rfl, rfl, rfl, trivial⟩ ⟨[0, 1], by decide, rfl⟩
  refine gl_nil <| gx_then <| gc_cond_f rfl <| gc_exit <| gx_then_exit <| gx_then_exit <| gx_block_exit <| gx_then <| gc_seq <| gc_region <| gl_op <| op_rd rfl (rd_move rfl) <| gl_op <| op_rd rfl (rd_assign rfl) <| gl_op <| op_rd rfl (rd_assign rfl) <| gl_nil <| gx_then <| gc_ret <| gx_ret2 (.inl rfl) Tryd.results43 rfl rfl [] (by decide) ?_
  exact ⟨n, 0, rfl, rfl, hn0, by omega, fun _ => hck⟩
set_option maxRecDepth 100000 in
set_option maxHeartbeats 1000000 in
theorem large_ok (s : Org) (hle : OrgLe s) (h : Hd) (w0 : World) (hS : OrgIn s w0 []) : Sp Tryd.prog 20 [s.val, h.val] w0 [] (fun v L => ∃ b, v = .bool b ∧ L = []) := by
  refine spec_enter Tryd.func20 rfl Tryd.ntmps20 rfl (Own.refl _) ?_
  simp only [argEnv]
  refine gc_seq <| gc_region <| gl_op (op_box rfl rfl rfl (fun b2 => ?_))
  refine gl_op (op_box rfl rfl rfl (fun b3 => ?_))
  refine gl_op <| op_rd rfl (rd_assign rfl) <| gl_nil <| gx_then <| gc_seq <| gc_region <| gl_op (op_rd rfl (rd_loadAgg Tryd.underlying27 rfl ty_27 rfl (by exact cs_blk 1 (off := 0) (k := 4) rfl rfl) rfl) ?_)
  refine gl_op (op_call rfl (vf := []) (vc := []) rfl rfl Tryd.call43 (fun w1 ho => rPipes_ok s hle w1 (hS.at ho)) ?_)
  rintro _ _ ⟨n, e, rfl, rfl, hn0, hn1, hne⟩
  refine gl_op <| op_rd rfl (rd_move rfl) <| gl_op <| op_rd rfl (rd_extract rfl rfl) <| gl_op <| op_rd rfl (rd_extract rfl rfl) <| gl_op <| op_rd rfl (rd_assign rfl) <| gl_op <| op_rd rfl (rd_assign rfl) <| gl_nil <| gx_then <| gc_seq <| gc_seq <| gc_region <| gl_op <| op_rd rfl (rd_move rfl) <| gl_op (op_rd rfl (rd_neq rfl rfl) (gk_dec (fun h15 => ?_) (fun h15 => ?_)))
  · refine gl_nil <| gx_then <| gc_cond_t rfl <| gc_seq <| gc_region <| gl_op <| op_rd rfl (rd_assign rfl) <| gl_nil <| gx_then <| gc_ret <| gx_then_ret <| gx_ret1 (.inl rfl) Tryd.results20 rfl [] (by decide) ?_
    exact ⟨_, rfl, rfl⟩
  have hck := hne (by omega)
  have hrk := ranks_le hck
  refine gl_nil <| gx_then <| gc_cond_f rfl <| gc_skip <| gx_then <| gc_seq <| gc_region <| gl_op <| op_rd rfl (rd_assign rfl) <| gl_nil <| gx_then <| gc_seq <| gc_seq <| gc_region <| gl_op <| op_rd rfl (rd_assign rfl) <| gl_nil <| gx_then <| gc_block <| gc_loopF (ι := Nat × Int) [(2, _), (3, _), (5, _)] [_, _] (fun q => q.1 ≤ s.ds.length ∧ 0 ≤ q.2 ∧ q.2 ≤ 128) (fun q Fr0 => ((7, .int .i64 q.2) :: (8, natV q.1) :: Fr0)) (fun q Fr0 => Fr0) (fun q => s.ds.length - q.1) (0, 0) (⟨Nat.zero_le _, by simp, by simp⟩) ⟨rfl, rfl, rfl, rfl, rfl, trivial⟩ ⟨[0, 1], by decide, rfl⟩ ?_
  rintro ⟨k, m⟩ ⟨hk, hm0, hm1⟩
  simp only at hk hm0 hm1 ⊢
  refine gc_seq <| gc_seq <| gc_region <| gl_op <| op_rd rfl (rd_move rfl) <| gl_op <| op_rd rfl (rd_fieldAddr rfl (fa_27_0 _)) <| gl_op (op_rd rfl (rd_load Tryd.underlying22 rfl rfl (by exact ld_blk 1 rfl rfl)) ?_)
  refine gl_op <| op_rd rfl (rd_lenSlice Tryd.underlying22 rfl) <| gl_op (op_rd rfl (rd_lss rfl rfl) (gk_dec (fun h20 => ?_) (fun h20 => ?_)))
  · obtain ⟨x, hx⟩ := get_some (show k < s.ds.length by omega)
    have hxr := range_le hck hx
    refine gl_nil <| gx_then <| gc_cond_t rfl <| gc_skip <| gx_then <| gc_seq <| gc_block <| gc_drawP [0, 1] true 16 rfl <| ga_first 0 (bm 17 1) rfl rfl rfl rfl (by kernel_rfl) (by kernel_rfl) ⟨[0, 1], by decide, rfl⟩ (qt_rd (rd_move rfl)) ?_
    refine ga_first 1 (bm 17 3) rfl rfl rfl rfl (by kernel_rfl) (by kernel_rfl) ⟨[0, 1], by decide, rfl⟩ (qt_rd (rd_fieldAddr rfl (fa_27_0 _))) ?_
    refine ga_first 2 (bm 17 7) rfl rfl rfl rfl (by kernel_rfl) (by kernel_rfl) ⟨[0, 1], by decide, rfl⟩ (qt_rd (rd_load Tryd.underlying22 rfl rfl (by exact ld_blk 1 rfl rfl))) ?_
    refine ga_first 3 (bm 17 15) rfl rfl rfl rfl (by kernel_rfl) (by kernel_rfl) ⟨[0, 1], by decide, rfl⟩ (qt_rd (rd_move rfl)) ?_
    refine ga_first 4 (bm 17 31) rfl rfl rfl rfl (by kernel_rfl) (by kernel_rfl) ⟨[0, 1], by decide, rfl⟩ (qt_rd (rd_indexOld hS.d Tryd.underlying22 ty_65 rfl rfl (by omega) (by omega))) ?_
    refine ga_first 5 (bm 17 63) rfl rfl rfl rfl (by kernel_rfl) (by kernel_rfl) ⟨[0, 1], by decide, rfl⟩ (qt_rd (rd_fieldAddr rfl (fa_65_2 _))) ?_
    refine ga_first 6 (bm 17 127) rfl rfl rfl rfl (by kernel_rfl) (by kernel_rfl) ⟨[0, 1], by decide, rfl⟩ (qt_rd (rd_load Tryd.underlying3 rfl rfl (ld_slf hS.d (get_flat Dv.cells 3 (fun _ => rfl) hx (j := 2) (by decide) rfl)))) ?_
    refine ga_first 7 (bm 17 255) rfl rfl rfl rfl (by kernel_rfl) (by kernel_rfl) ⟨[0, 1], by decide, rfl⟩ (qt_rd (rd_fieldAddr rfl (fa_27_0 _))) ?_
    refine ga_first 8 (bm 17 511) rfl rfl rfl rfl (by kernel_rfl) (by kernel_rfl) ⟨[0, 1], by decide, rfl⟩ (qt_rd (rd_load Tryd.underlying22 rfl rfl (by exact ld_blk 1 rfl rfl))) ?_
    refine ga_first 9 (bm 17 1023) rfl rfl rfl rfl (by kernel_rfl) (by kernel_rfl) ⟨[0, 1], by decide, rfl⟩ (qt_rd (rd_move rfl)) ?_
    refine ga_first 10 (bm 17 2047) rfl rfl rfl rfl (by kernel_rfl) (by kernel_rfl) ⟨[0, 1], by decide, rfl⟩ (qt_rd (rd_indexOld hS.d Tryd.underlying22 ty_65 rfl rfl (by omega) (by omega))) ?_
    refine ga_first 11 (bm 17 4095) rfl rfl rfl rfl (by kernel_rfl) (by kernel_rfl) ⟨[0, 1], by decide, rfl⟩ (qt_rd (rd_fieldAddr rfl (fa_65_1 _))) ?_
    refine ga_first 12 (bm 17 8191) rfl rfl rfl rfl (by kernel_rfl) (by kernel_rfl) ⟨[0, 1], by decide, rfl⟩ (qt_rd (rd_load Tryd.underlying3 rfl rfl (ld_slf hS.d (get_flat Dv.cells 3 (fun _ => rfl) hx (j := 1) (by decide) rfl)))) ?_
    refine ga_first 13 (bm 17 16383) rfl rfl rfl rfl (by kernel_rfl) (by kernel_rfl) ⟨[0, 1], by decide, rfl⟩ (qt_rd (by exact rd_sub rfl rfl (by omega) (by omega))) ?_
    refine ga_first 14 (bm 17 32767) rfl rfl rfl rfl (by kernel_rfl) (by kernel_rfl) ⟨[0, 1], by decide, rfl⟩ (qt_rd (by exact rd_add rfl rfl (by omega) (by omega))) ?_
    refine ga_first 15 (bm 17 65535) rfl rfl rfl rfl (by kernel_rfl) (by kernel_rfl) ⟨[0, 1], by decide, rfl⟩ (qt_rd (rd_max2 rfl rfl)) ?_
    refine ga_first 16 (bm 17 131071) rfl rfl rfl rfl (by kernel_rfl) (by kernel_rfl) ⟨[0, 1], by decide, rfl⟩ (qt_rd (rd_assign rfl)) ?_
    refine ga_end (by kernel_rfl) (.inr ⟨[0, 1], by decide, rfl⟩) ?_
    refine gx_block <| gx_then <| gc_region <| gl_op <| op_rd rfl (rd_move rfl) <| gl_op (op_rd rfl (by exact rd_addN (b := 1) rfl rfl (by omega)) ?_)
    refine gl_op <| op_rd rfl (rd_assign rfl) <| gl_nil <| gx_then ?_
    exact gx_cut ((k + 1, max m (x.hi - x.lo + 1))) ⟨⟨by simp only; omega, by simp only; omega, by simp only; omega⟩, by simp only; omega⟩ ⟨rfl, rfl, rfl, rfl, rfl, trivial⟩ ⟨[0, 1], by decide, rfl⟩
  refine gl_nil <| gx_then <| gc_cond_f rfl <| gc_exit <| gx_then_exit <| gx_then_exit <| gx_block_exit <| gx_then <| gc_seq <| gc_region <| gl_op <| op_rd rfl (rd_move rfl) <| gl_op <| op_rd rfl (rd_move rfl) <| gl_op <| op_rd rfl (rd_mulk rfl rfl) <| gl_op <| op_rd rfl (rd_fieldAddr rfl (fa_31_1 _)) <| gl_op (op_rd rfl (rd_load Tryd.underlying29 rfl rfl (by exact ld_blk 0 rfl rfl)) ?_)
  refine gl_op <| op_rd rfl (rd_lenSlice Tryd.underlying29 rfl) <| gl_op <| op_rd rfl (rd_mulk rfl rfl) <| gl_op <| op_rd rfl (rd_gtr rfl rfl) <| gl_op <| op_rd rfl (rd_assign rfl) <| gl_nil <| gx_then <| gc_ret <| gx_ret1 (.inl rfl) Tryd.results20 rfl [] (by decide) ?_
  exact ⟨_, rfl, rfl⟩
end Go.Proofs.YtbjijbbkfgcleaaDoor
namespace Go.Proofs.YtbjijbbkfgcleaaDoor
open Go.Gv
open Go.RowKit
open Go.Sn
open Sx
end Go.Proofs.YtbjijbbkfgcleaaDoor
namespace Go.Proofs.YtbjijbbkfgcleaaDoor
open Go.Gv
open Go.RowKit
open Go.Sn
open Sx
set_option maxRecDepth 100000 in
set_option maxHeartbeats 1000000 in
theorem leads_ok (s : Org) (n : HN) (hle : OrgLe s) (hhe : HdLe n.hd) (hg : HGood s n) (u : Rsn) (hp : Path (cxN s n) (u.d0, u.k0) u.ch (u.d, u.n)) (hul : u.ch.length ≤ 1000) (a0 : Option Addr) (c0 : Nat) (w0 : World) (hS : OrgIn s w0 []) (hH : HNIn n w0 []) (hx : OldSl w0 [] a0 u.ch.length 1 (u.ch.map natV)) : Sp Tryd.prog 24 [s.val, n.val, u.val a0 c0] w0 [] (RV (.bool true)) := by
  have hA := hg.cx
  have hst0 := Path.start _ rfl hp
  obtain ⟨r0, hr0, hkd0, hst⟩ := kd_mem hst0
  have hr0m := List.mem_of_getElem? hr0
  have hrl := hg.hk r0 hr0m
  have hd0 := (List.getElem?_eq_some_iff.1 hr0).1
  have hnk : n.ks.length = s.ds.length := by have := hA.nk; simpa [cxN] using this
  have hnd : s.ds.length ≤ 6 := hA.nd
  have hnc := hg.nc
  have hncl : n.cs.length ≤ s.cs.length := asc_len hA.dra hA.drn
  simp only at hst hd0
  refine spec_enter Tryd.func24 rfl Tryd.ntmps24 rfl (Own.refl _) ?_
  simp only [argEnv]
  refine gc_seq <| gc_region <| gl_op (op_box rfl rfl rfl (fun b3 => ?_))
  refine gl_op (op_box rfl rfl rfl (fun b4 => ?_))
  refine gl_op (op_box rfl rfl rfl (fun b5 => ?_))
  refine gl_op <| op_rd rfl (rd_assign rfl) <| gl_nil <| gx_then <| gc_seq <| gc_drawP [0, 1, 2] true 5 rfl <| ga_first 0 (bm 6 1) rfl rfl rfl rfl (by kernel_rfl) (by kernel_rfl) ⟨[0, 1, 2], by decide, rfl⟩ (qt_rd (rd_fieldAddr rfl (fa_44_0 _))) ?_
  refine ga_first 1 (bm 6 3) rfl rfl rfl rfl (by kernel_rfl) (by kernel_rfl) ⟨[0, 1, 2], by decide, rfl⟩ (qt_rd (rd_load Tryd.underlying3 rfl rfl (by exact ld_blk 0 rfl rfl))) ?_
  refine ga_first 2 (bm 6 7) rfl rfl rfl rfl (by kernel_rfl) (by kernel_rfl) ⟨[0, 1, 2], by decide, rfl⟩ (qt_rd (rd_fieldAddr rfl (fa_44_1 _))) ?_
  refine ga_first 3 (bm 6 15) rfl rfl rfl rfl (by kernel_rfl) (by kernel_rfl) ⟨[0, 1, 2], by decide, rfl⟩ (qt_rd (rd_load Tryd.underlying3 rfl rfl (by exact ld_blk 0 rfl rfl))) ?_
  refine ga_first 4 (bm 6 31) rfl rfl rfl rfl (by kernel_rfl) (by kernel_rfl) ⟨[0, 1, 2], by decide, rfl⟩ (qt_rd (rd_assign rfl)) ?_
  refine ga_first 5 (bm 6 63) rfl rfl rfl rfl (by kernel_rfl) (by kernel_rfl) ⟨[0, 1, 2], by decide, rfl⟩ (qt_rd (rd_assign rfl)) ?_
  refine ga_end (by kernel_rfl) (.inr ⟨[0, 1, 2], by decide, rfl⟩) ?_
  refine gx_then <| gc_seq <| gc_seq <| gc_region <| gl_op <| op_rd rfl (rd_move rfl) <| gl_op (op_rd rfl (rd_lss rfl rfl) (gk_dec (fun h17 => ?_) (fun h17 => ?_)))
  · exfalso; omega
  refine gl_op <| op_rd rfl (rd_move rfl) <| gl_yes rfl rfl <| op_rd rfl (rd_move rfl) <| gl_yes rfl rfl <| op_rd rfl (rd_fieldAddr rfl (fa_27_0 _)) <| gl_yes rfl rfl (op_rd rfl (rd_load Tryd.underlying22 rfl rfl (by exact ld_blk 2 rfl rfl)) ?_)
  refine gl_yes rfl rfl <| op_rd rfl (rd_lenSlice Tryd.underlying22 rfl) <| gl_yes rfl rfl (op_rd rfl (rd_geq rfl rfl) (gk_dec (fun h23 => ?_) (fun h23 => ?_)))
  · exfalso; omega
  refine gl_op <| op_rd rfl (rd_pick_f rfl rfl) <| gl_op <| op_rd rfl (rd_move rfl) <| gl_yes rfl rfl <| op_rd rfl (rd_move rfl) <| gl_yes rfl rfl <| op_rd rfl (rd_fieldAddr rfl (fa_31_0 _)) <| gl_yes rfl rfl (op_rd rfl (rd_load Tryd.underlying28 rfl rfl (by exact ld_blk 1 rfl rfl)) ?_)
  refine gl_yes rfl rfl <| op_rd rfl (rd_lenSlice Tryd.underlying28 rfl) <| gl_yes rfl rfl (op_rd rfl (rd_geq rfl rfl) (gk_dec (fun h30 => ?_) (fun h30 => ?_)))
  · exfalso; omega
  refine gl_op <| op_rd rfl (rd_pick_f rfl rfl) <| gl_op <| op_rd rfl (rd_move rfl) <| gl_yes rfl rfl <| op_rd rfl (rd_fieldAddr rfl (fa_31_0 _)) <| gl_yes rfl rfl (op_rd rfl (rd_load Tryd.underlying28 rfl rfl (by exact ld_blk 1 rfl rfl)) ?_)
  refine gl_yes rfl rfl <| op_rd rfl (rd_move rfl) <| gl_yes rfl rfl (op_rd rfl (rd_indexOld1 hH.k Tryd.underlying28 ty_29 rfl rfl (by omega) (by omega)) ?_)
  refine gl_yes rfl rfl <| op_rd rfl (rd_load Tryd.underlying29 rfl rfl (ld_slN hH.k (get_kn hr0))) <| gl_yes rfl rfl <| op_rd rfl (rd_move rfl) <| gl_yes rfl rfl (op_call rfl (vf := []) (vc := []) rfl rfl Tryd.call22 (fun w1 ho => in_ok r0.ks u.k0 _ _ (by omega) w1 ((hH.r r0 hr0m).at ho)) ?_)
  rintro _ _ ⟨rfl, rfl⟩
  refine gk_bool (fun h39 => ?_) (fun h39 => ?_)
  · refine gl_yes rfl rfl <| op_rd rfl (rd_not rfl) <| gl_op <| op_rd rfl (rd_pick_f rfl rfl) <| gl_nil <| gx_then <| gc_cond_f rfl <| gc_skip <| gx_then <| gc_seq <| gc_seq <| gc_region <| gl_op <| op_rd rfl (rd_assign rfl) <| gl_nil <| gx_then <| gc_block <| gc_loopF (ι := Nat × Pl) [(3, _), (4, _), (5, _)] [_, _, _] (fun q => q.1 ≤ u.ch.length ∧ Path (cxN s n) (u.d0, u.k0) (u.ch.take q.1) q.2) (fun q Fr0 => ((7, natV q.2.1) :: (8, natV q.2.2) :: (9, natV q.1) :: Fr0)) (fun q Fr0 => Fr0) (fun q => u.ch.length - q.1) (0, (u.d0, u.k0)) (⟨Nat.zero_le _, .played hst0⟩) ⟨rfl, rfl, rfl, rfl, rfl, rfl, trivial⟩ ⟨[0, 1, 2], by decide, rfl⟩ ?_
    rintro ⟨k, a⟩ ⟨hk, hpa⟩
    simp only at hk hpa ⊢
    refine gc_seq <| gc_seq <| gc_region <| gl_op <| op_rd rfl (rd_move rfl) <| gl_op <| op_rd rfl (rd_fieldAddr rfl (fa_44_2 _)) <| gl_op (op_rd rfl (rd_load Tryd.underlying29 rfl rfl (by exact ld_blk 0 rfl rfl)) ?_)
    refine gl_op <| op_rd rfl (rd_lenSlice Tryd.underlying29 rfl) <| gl_op (op_rd rfl (rd_lss rfl rfl) (gk_dec (fun h46 => ?_) (fun h46 => ?_)))
    · obtain ⟨i, a2, b, hci, hpa2, him, hnx, htg, hpb⟩ := Path.at u.ch.length rfl hp k (by omega)
      obtain rfl : a2 = a := Path.fwd _ rfl hpa2 hpa
      obtain ⟨c, d, hc, hd, hsrc, hdst, hkey, hlo, hhi, hthr, hbass, hmel⟩ := lead_step hg hr0 hpa him hnx htg
      have him2 : i ∈ n.cs := him
      have hcl := (List.getElem?_eq_some_iff.1 hc).1
      have hdl := (List.getElem?_eq_some_iff.1 hd).1
      have hrd := hA.rng b.1 hdl
      rw [show (cxN s n).dv b.1 = d from getD_some hd] at hrd
      have hone := (cpErr_ok ((checkP_facts hg.spec).2.2.2.2 i hcl)).2.2.1
      rw [getD_some hc] at hone
      refine gl_nil <| gx_then <| gc_cond_t rfl <| gc_skip <| gx_then <| gc_seq <| gc_block <| gc_seq <| gc_seq <| gc_drawP [0, 1, 2] true 27 rfl <| ga_first 0 (bm 28 1) rfl rfl rfl rfl (by kernel_rfl) (by kernel_rfl) ⟨[0, 1, 2], by decide, rfl⟩ (qt_rd (rd_fieldAddr rfl (fa_31_2 _))) ?_
      refine ga_first 1 (bm 28 3) rfl rfl rfl rfl (by kernel_rfl) (by kernel_rfl) ⟨[0, 1, 2], by decide, rfl⟩ (qt_rd (rd_load Tryd.underlying29 rfl rfl (by exact ld_blk 1 rfl rfl))) ?_
      refine ga_first 2 (bm 28 7) rfl rfl rfl rfl (by kernel_rfl) (by kernel_rfl) ⟨[0, 1, 2], by decide, rfl⟩ (qt_rd (rd_fieldAddr rfl (fa_44_2 _))) ?_
      refine ga_first 3 (bm 28 15) rfl rfl rfl rfl (by kernel_rfl) (by kernel_rfl) ⟨[0, 1, 2], by decide, rfl⟩ (qt_rd (rd_load Tryd.underlying29 rfl rfl (by exact ld_blk 0 rfl rfl))) ?_
      refine ga_first 4 (bm 28 31) rfl rfl rfl rfl (by kernel_rfl) (by kernel_rfl) ⟨[0, 1, 2], by decide, rfl⟩ (qt_rd (rd_move rfl)) ?_
      refine ga_first 5 (bm 28 63) rfl rfl rfl rfl (by kernel_rfl) (by kernel_rfl) ⟨[0, 1, 2], by decide, rfl⟩ (qt_rd (rd_indexOld1 hx Tryd.underlying29 ty_3 rfl rfl (by omega) (by omega))) ?_
      refine ga_first 6 (bm 28 127) rfl rfl rfl rfl (by kernel_rfl) (by kernel_rfl) ⟨[0, 1, 2], by decide, rfl⟩ (qt_rd (rd_load Tryd.underlying3 rfl rfl (ld_slN hx (get_nz hci)))) ?_
      refine ga_only 7 (bm 28 255) rfl rfl (by kernel_rfl) (by kernel_rfl) (.inr ⟨[0, 1, 2], by decide, rfl⟩) (op_call rfl (vf := []) (vc := []) rfl rfl Tryd.call22 (fun w1 ho => in_ok n.cs i _ _ (by omega) w1 (hH.c.at ho)) ?_)
      rintro _ _ ⟨rfl, rfl⟩
      refine gk_bool (fun h56 => ?_) (fun h56 => ?_)
      · refine ga_first 8 (bm 28 511) rfl rfl rfl rfl (by kernel_rfl) (by kernel_rfl) ⟨[0, 1, 2], by decide, rfl⟩ (qt_rd (rd_not rfl)) ?_
        refine ga_first 9 (bm 28 1023) rfl rfl rfl rfl (by kernel_rfl) (by kernel_rfl) ⟨[0, 1, 2], by decide, rfl⟩ (qt_rd (rd_move rfl)) ?_
        refine ga_firstY 10 (bm 28 2047) rfl rfl rfl rfl rfl rfl (by kernel_rfl) (by kernel_rfl) ⟨[0, 1, 2], by decide, rfl⟩ (qt_rd (rd_fieldAddr rfl (fa_44_2 _))) ?_
        refine ga_firstY 11 (bm 28 4095) rfl rfl rfl rfl rfl rfl (by kernel_rfl) (by kernel_rfl) ⟨[0, 1, 2], by decide, rfl⟩ (qt_rd (rd_load Tryd.underlying29 rfl rfl (by exact ld_blk 0 rfl rfl))) ?_
        refine ga_firstY 12 (bm 28 8191) rfl rfl rfl rfl rfl rfl (by kernel_rfl) (by kernel_rfl) ⟨[0, 1, 2], by decide, rfl⟩ (qt_rd (rd_move rfl)) ?_
        refine ga_firstY 13 (bm 28 16383) rfl rfl rfl rfl rfl rfl (by kernel_rfl) (by kernel_rfl) ⟨[0, 1, 2], by decide, rfl⟩ (qt_rd (rd_indexOld1 hx Tryd.underlying29 ty_3 rfl rfl (by omega) (by omega))) ?_
        refine ga_firstY 14 (bm 28 32767) rfl rfl rfl rfl rfl rfl (by kernel_rfl) (by kernel_rfl) ⟨[0, 1, 2], by decide, rfl⟩ (qt_rd (rd_load Tryd.underlying3 rfl rfl (ld_slN hx (get_nz hci)))) ?_
        refine ga_firstY 15 (bm 28 65535) rfl rfl rfl rfl rfl rfl (by kernel_rfl) (by kernel_rfl) ⟨[0, 1, 2], by decide, rfl⟩ (qt_rd (rd_lss rfl rfl)) (gk_dec (fun h64 => ?_) (fun h64 => ?_))
        · exfalso; omega
        refine ga_first 16 (bm 28 131071) rfl rfl rfl rfl (by kernel_rfl) (by kernel_rfl) ⟨[0, 1, 2], by decide, rfl⟩ (qt_rd (rd_pick_f rfl rfl)) ?_
        refine ga_first 17 (bm 28 262143) rfl rfl rfl rfl (by kernel_rfl) (by kernel_rfl) ⟨[0, 1, 2], by decide, rfl⟩ (qt_rd (rd_move rfl)) ?_
        refine ga_firstY 18 (bm 28 524287) rfl rfl rfl rfl rfl rfl (by kernel_rfl) (by kernel_rfl) ⟨[0, 1, 2], by decide, rfl⟩ (qt_rd (rd_fieldAddr rfl (fa_44_2 _))) ?_
        refine ga_firstY 19 (bm 28 1048575) rfl rfl rfl rfl rfl rfl (by kernel_rfl) (by kernel_rfl) ⟨[0, 1, 2], by decide, rfl⟩ (qt_rd (rd_load Tryd.underlying29 rfl rfl (by exact ld_blk 0 rfl rfl))) ?_
        refine ga_firstY 20 (bm 28 2097151) rfl rfl rfl rfl rfl rfl (by kernel_rfl) (by kernel_rfl) ⟨[0, 1, 2], by decide, rfl⟩ (qt_rd (rd_move rfl)) ?_
        refine ga_firstY 21 (bm 28 4194303) rfl rfl rfl rfl rfl rfl (by kernel_rfl) (by kernel_rfl) ⟨[0, 1, 2], by decide, rfl⟩ (qt_rd (rd_indexOld1 hx Tryd.underlying29 ty_3 rfl rfl (by omega) (by omega))) ?_
        refine ga_firstY 22 (bm 28 8388607) rfl rfl rfl rfl rfl rfl (by kernel_rfl) (by kernel_rfl) ⟨[0, 1, 2], by decide, rfl⟩ (qt_rd (rd_load Tryd.underlying3 rfl rfl (ld_slN hx (get_nz hci)))) ?_
        refine ga_firstY 23 (bm 28 16777215) rfl rfl rfl rfl rfl rfl (by kernel_rfl) (by kernel_rfl) ⟨[0, 1, 2], by decide, rfl⟩ (qt_rd (rd_fieldAddr rfl (fa_27_3 _))) ?_
        refine ga_firstY 24 (bm 28 33554431) rfl rfl rfl rfl rfl rfl (by kernel_rfl) (by kernel_rfl) ⟨[0, 1, 2], by decide, rfl⟩ (qt_rd (rd_load Tryd.underlying25 rfl rfl (by exact ld_blk 2 rfl rfl))) ?_
        refine ga_firstY 25 (bm 28 67108863) rfl rfl rfl rfl rfl rfl (by kernel_rfl) (by kernel_rfl) ⟨[0, 1, 2], by decide, rfl⟩ (qt_rd (rd_lenSlice Tryd.underlying25 rfl)) ?_
        refine ga_firstY 26 (bm 28 134217727) rfl rfl rfl rfl rfl rfl (by kernel_rfl) (by kernel_rfl) ⟨[0, 1, 2], by decide, rfl⟩ (qt_rd (rd_geq rfl rfl)) (gk_dec (fun h75 => ?_) (fun h75 => ?_))
        · exfalso; omega
        refine ga_first 27 (bm 28 268435455) rfl rfl rfl rfl (by kernel_rfl) (by kernel_rfl) ⟨[0, 1, 2], by decide, rfl⟩ (qt_rd (rd_pick_f rfl rfl)) ?_
        refine ga_end (by kernel_rfl) (.inr ⟨[0, 1, 2], by decide, rfl⟩) ?_
        refine gx_then <| gc_cond_f rfl <| gc_skip <| gx_then <| gc_seq <| gc_drawP [0, 1, 2] false 10 rfl <| ga_first 0 (bm 11 1) rfl rfl rfl rfl (by kernel_rfl) (by kernel_rfl) ⟨[0, 1, 2], by decide, rfl⟩ (qt_rd (rd_fieldAddr rfl (fa_27_3 _))) ?_
        refine ga_first 1 (bm 11 3) rfl rfl rfl rfl (by kernel_rfl) (by kernel_rfl) ⟨[0, 1, 2], by decide, rfl⟩ (qt_rd (rd_load Tryd.underlying25 rfl rfl (by exact ld_blk 2 rfl rfl))) ?_
        refine ga_first 2 (bm 11 7) rfl rfl rfl rfl (by kernel_rfl) (by kernel_rfl) ⟨[0, 1, 2], by decide, rfl⟩ (qt_rd (rd_fieldAddr rfl (fa_44_2 _))) ?_
        refine ga_first 3 (bm 11 15) rfl rfl rfl rfl (by kernel_rfl) (by kernel_rfl) ⟨[0, 1, 2], by decide, rfl⟩ (qt_rd (rd_load Tryd.underlying29 rfl rfl (by exact ld_blk 0 rfl rfl))) ?_
        refine ga_first 4 (bm 11 31) rfl rfl rfl rfl (by kernel_rfl) (by kernel_rfl) ⟨[0, 1, 2], by decide, rfl⟩ (qt_rd (rd_move rfl)) ?_
        refine ga_first 5 (bm 11 63) rfl rfl rfl rfl (by kernel_rfl) (by kernel_rfl) ⟨[0, 1, 2], by decide, rfl⟩ (qt_rd (rd_indexOld1 hx Tryd.underlying29 ty_3 rfl rfl (by omega) (by omega))) ?_
        refine ga_first 6 (bm 11 127) rfl rfl rfl rfl (by kernel_rfl) (by kernel_rfl) ⟨[0, 1, 2], by decide, rfl⟩ (qt_rd (rd_load Tryd.underlying3 rfl rfl (ld_slN hx (get_nz hci)))) ?_
        refine ga_first 7 (bm 11 255) rfl rfl rfl rfl (by kernel_rfl) (by kernel_rfl) ⟨[0, 1, 2], by decide, rfl⟩ (qt_rd (rd_indexOld hS.c Tryd.underlying25 ty_67 rfl rfl (by omega) (by omega))) ?_
        refine ga_first 8 (bm 11 511) rfl rfl rfl rfl (by kernel_rfl) (by kernel_rfl) ⟨[0, 1, 2], by decide, rfl⟩ (qt_rd (rd_loadAgg Tryd.underlying67 rfl ty_67 rfl (cs_slN hS.c (flat_drop_get Cp.cells 6 (fun _ => rfl) hc)) rfl)) ?_
        refine ga_only 9 (bm 11 1023) rfl rfl (by kernel_rfl) (by kernel_rfl) (.inr ⟨[0, 1, 2], by decide, rfl⟩) (op_alloc ty_67 rfl rfl (fun b10 => ?_))
        refine ga_only 10 (bm 11 2047) rfl rfl (by kernel_rfl) (by kernel_rfl) (.inr ⟨[1, 2, 3], by decide, rfl⟩) (op_storeAgg 0 ty_67 rfl rfl rfl rfl rfl rfl (by rfl) ?_)
        refine ga_end (by kernel_rfl) (.inl (by kernel_rfl)) ?_
        refine gx_then <| gc_seq ?_
        simp only [Cp.cells]
        refine gc_region <| gl_op <| op_rd rfl (rd_fieldAddr rfl (fa_31_0 _)) <| gl_op (op_rd rfl (rd_load Tryd.underlying28 rfl rfl (by exact ld_blk 2 rfl rfl)) ?_)
        refine gl_op <| op_rd rfl (rd_fieldAddr rfl (fa_44_0 _)) <| gl_op (op_rd rfl (rd_load Tryd.underlying3 rfl rfl (by exact ld_blk 1 rfl rfl)) ?_)
        refine gl_op (op_rd rfl (rd_indexOld1 hH.k Tryd.underlying28 ty_29 rfl rfl (by omega) (by omega)) ?_)
        refine gl_op <| op_rd rfl (rd_load Tryd.underlying29 rfl rfl (ld_slN hH.k (get_kn hr0))) <| gl_op <| op_rd rfl (rd_assign rfl) <| gl_nil <| gx_then <| gc_seq <| gc_seq <| gc_region <| gl_op <| op_rd rfl (rd_fieldAddr rfl (fa_67_1 _)) <| gl_op (op_rd rfl (rd_load Tryd.underlying3 rfl rfl (by exact ld_blk 0 rfl rfl)) ?_)
        refine gl_op <| op_rd rfl (rd_move rfl) <| gl_op (op_rd rfl (rd_neq rfl rfl) (gk_dec (fun h95 => ?_) (fun h95 => ?_)))
        · exact absurd hsrc h95
        refine gl_op <| op_rd rfl (rd_move rfl) <| gl_yes rfl rfl <| op_rd rfl (rd_move rfl) <| gl_yes rfl rfl (op_rd rfl (rd_gtr rfl rfl) (gk_dec (fun h98 => ?_) (fun h98 => ?_)))
        · refine gl_yes rfl rfl <| op_rd rfl (rd_move rfl) <| gl_yes rfl rfl <| op_rd rfl (rd_fieldAddr rfl (fa_67_5 _)) <| gl_yes rfl rfl (op_rd rfl (rd_load Tryd.underlying4 rfl rfl (by exact ld_blk 0 rfl rfl)) ?_)
          refine gk_bool (fun h101 => ?_) (fun h101 => ?_)
          · refine gl_yes rfl rfl <| op_rd rfl (rd_not rfl) <| gl_yes rfl rfl <| op_rd rfl (rd_pick_t rfl rfl) <| gl_op <| op_rd rfl (rd_pick_f rfl rfl) <| gl_op <| op_rd rfl (rd_move rfl) <| gl_yes rfl rfl <| op_rd rfl (rd_fieldAddr rfl (fa_67_4 _)) <| gl_yes rfl rfl (op_rd rfl (rd_load Tryd.underlying3 rfl rfl (by exact ld_blk 0 rfl rfl)) ?_)
            refine gl_yes rfl rfl (op_rd rfl (rd_eql rfl rfl) (gk_dec (fun h108 => ?_) (fun h108 => ?_)))
            · have hb9 := hbass h108
              have hkl := (List.getElem?_eq_some_iff.1 hb9).1
              refine gl_yes rfl rfl <| op_rd rfl (rd_move rfl) <| gl_yes rfl rfl <| op_rd rfl (rd_move rfl) <| gl_yes rfl rfl <| op_rd rfl (rd_move rfl) <| gl_yes rfl rfl (op_rd rfl (rd_indexOld1 (hH.r r0 hr0m) Tryd.underlying29 ty_3 rfl rfl (by omega) (by omega)) ?_)
              refine gl_yes rfl rfl <| op_rd rfl (rd_load Tryd.underlying3 rfl rfl (ld_slN (hH.r r0 hr0m) (get_nz hb9))) <| gl_yes rfl rfl (op_rd rfl (rd_neq rfl rfl) (gk_dec (fun h114 => ?_) (fun h114 => ?_)))
              · exact absurd rfl h114
              refine gl_yes rfl rfl <| op_rd rfl (rd_pick_t rfl rfl) <| gl_op <| op_rd rfl (rd_pick_f rfl rfl) <| gl_op <| op_rd rfl (rd_move rfl) <| gl_yes rfl rfl <| op_rd rfl (rd_fieldAddr rfl (fa_67_4 _)) <| gl_yes rfl rfl (op_rd rfl (rd_load Tryd.underlying3 rfl rfl (by exact ld_blk 0 rfl rfl)) ?_)
              refine gl_yes rfl rfl (op_rd rfl (rd_eql rfl rfl) (gk_dec (fun h120 => ?_) (fun h120 => ?_)))
              · have hm9 := hmel h120
                have hkl := (List.getElem?_eq_some_iff.1 hm9).1
                refine gl_yes rfl rfl <| op_rd rfl (rd_move rfl) <| gl_yes rfl rfl <| op_rd rfl (rd_move rfl) <| gl_yes rfl rfl <| op_rd rfl (rd_move rfl) <| gl_yes rfl rfl <| op_rd rfl (rd_move rfl) <| gl_yes rfl rfl <| op_rd rfl (rd_lenSlice Tryd.underlying29 rfl) <| gl_yes rfl rfl (op_rd rfl (by exact rd_subN (b := 1) rfl rfl (by omega) (by omega)) ?_)
                refine gl_yes rfl rfl (op_rd rfl (rd_indexOld1 (hH.r r0 hr0m) Tryd.underlying29 ty_3 rfl rfl (by omega) (by omega)) ?_)
                refine gl_yes rfl rfl <| op_rd rfl (rd_load Tryd.underlying3 rfl rfl (ld_slN (hH.r r0 hr0m) (get_nz hm9))) <| gl_yes rfl rfl (op_rd rfl (rd_neq rfl rfl) (gk_dec (fun h129 => ?_) (fun h129 => ?_)))
                · exact absurd rfl h129
                refine gl_yes rfl rfl <| op_rd rfl (rd_pick_t rfl rfl) <| gl_op <| op_rd rfl (rd_pick_f rfl rfl) <| gl_nil <| gx_then <| gc_cond_f rfl <| gc_skip <| gx_then <| gc_seq <| gc_drawP [0, 1, 2, 3] true 7 rfl <| ga_first 0 (bm 8 1) rfl rfl rfl rfl (by kernel_rfl) (by kernel_rfl) ⟨[0, 1, 2, 3], by decide, rfl⟩ (qt_rd (rd_fieldAddr rfl (fa_67_2 _))) ?_
                refine ga_first 1 (bm 8 3) rfl rfl rfl rfl (by kernel_rfl) (by kernel_rfl) ⟨[0, 1, 2, 3], by decide, rfl⟩ (qt_rd (rd_load Tryd.underlying3 rfl rfl (by exact ld_blk 0 rfl rfl))) ?_
                refine ga_first 2 (bm 8 7) rfl rfl rfl rfl (by kernel_rfl) (by kernel_rfl) ⟨[0, 1, 2, 3], by decide, rfl⟩ (qt_rd (rd_move rfl)) ?_
                refine ga_first 3 (bm 8 15) rfl rfl rfl rfl (by kernel_rfl) (by kernel_rfl) ⟨[0, 1, 2, 3], by decide, rfl⟩ (qt_rd (rd_fieldAddr rfl (fa_67_3 _))) ?_
                refine ga_first 4 (bm 8 31) rfl rfl rfl rfl (by kernel_rfl) (by kernel_rfl) ⟨[0, 1, 2, 3], by decide, rfl⟩ (qt_rd (rd_load Tryd.underlying3 rfl rfl (by exact ld_blk 0 rfl rfl))) ?_
                refine ga_first 5 (bm 8 63) rfl rfl rfl rfl (by kernel_rfl) (by kernel_rfl) ⟨[0, 1, 2, 3], by decide, rfl⟩ (qt_rd (rd_add rfl rfl (by omega) (by omega))) ?_
                refine ga_first 6 (bm 8 127) rfl rfl rfl rfl (by kernel_rfl) (by kernel_rfl) ⟨[0, 1, 2, 3], by decide, rfl⟩ (qt_rd (rd_assign rfl)) ?_
                refine ga_first 7 (bm 8 255) rfl rfl rfl rfl (by kernel_rfl) (by kernel_rfl) ⟨[0, 1, 2, 3], by decide, rfl⟩ (qt_rd (rd_assign rfl)) ?_
                refine ga_end (by kernel_rfl) (.inr ⟨[0, 1, 2, 3], by decide, rfl⟩) ?_
                refine gx_then <| gc_seq ?_
                rw [hkey, hdst]
                refine gc_region <| gl_op <| op_rd rfl (rd_move rfl) <| gl_op (op_rd rfl (rd_lss rfl rfl) (gk_dec (fun h139 => ?_) (fun h139 => ?_)))
                · exfalso; omega
                refine gl_op <| op_rd rfl (rd_move rfl) <| gl_yes rfl rfl <| op_rd rfl (rd_move rfl) <| gl_yes rfl rfl <| op_rd rfl (rd_fieldAddr rfl (fa_27_0 _)) <| gl_yes rfl rfl (op_rd rfl (rd_load Tryd.underlying22 rfl rfl (by exact ld_blk 3 rfl rfl)) ?_)
                refine gl_yes rfl rfl <| op_rd rfl (rd_lenSlice Tryd.underlying22 rfl) <| gl_yes rfl rfl (op_rd rfl (rd_geq rfl rfl) (gk_dec (fun h145 => ?_) (fun h145 => ?_)))
                · exfalso; omega
                refine gl_op <| op_rd rfl (rd_pick_f rfl rfl) <| gl_op <| op_rd rfl (rd_move rfl) <| gl_yes rfl rfl <| op_rd rfl (rd_move rfl) <| gl_yes rfl rfl <| op_rd rfl (rd_fieldAddr rfl (fa_27_0 _)) <| gl_yes rfl rfl (op_rd rfl (rd_load Tryd.underlying22 rfl rfl (by exact ld_blk 3 rfl rfl)) ?_)
                refine gl_yes rfl rfl <| op_rd rfl (rd_move rfl) <| gl_yes rfl rfl (op_rd rfl (rd_indexOld hS.d Tryd.underlying22 ty_65 rfl rfl (by omega) (by omega)) ?_)
                refine gl_yes rfl rfl <| op_rd rfl (rd_fieldAddr rfl (fa_65_1 _)) <| gl_yes rfl rfl (op_rd rfl (rd_load Tryd.underlying3 rfl rfl (ld_slf hS.d (get_flat Dv.cells 3 (fun _ => rfl) hd (j := 1) (by decide) rfl))) ?_)
                refine gl_yes rfl rfl (op_rd rfl (rd_lss rfl rfl) (gk_dec (fun h155 => ?_) (fun h155 => ?_)))
                · exfalso; omega
                refine gl_op <| op_rd rfl (rd_pick_f rfl rfl) <| gl_op <| op_rd rfl (rd_move rfl) <| gl_yes rfl rfl <| op_rd rfl (rd_move rfl) <| gl_yes rfl rfl <| op_rd rfl (rd_fieldAddr rfl (fa_27_0 _)) <| gl_yes rfl rfl (op_rd rfl (rd_load Tryd.underlying22 rfl rfl (by exact ld_blk 3 rfl rfl)) ?_)
                refine gl_yes rfl rfl <| op_rd rfl (rd_move rfl) <| gl_yes rfl rfl (op_rd rfl (rd_indexOld hS.d Tryd.underlying22 ty_65 rfl rfl (by omega) (by omega)) ?_)
                refine gl_yes rfl rfl <| op_rd rfl (rd_fieldAddr rfl (fa_65_2 _)) <| gl_yes rfl rfl (op_rd rfl (rd_load Tryd.underlying3 rfl rfl (ld_slf hS.d (get_flat Dv.cells 3 (fun _ => rfl) hd (j := 2) (by decide) rfl))) ?_)
                refine gl_yes rfl rfl (op_rd rfl (rd_gtr rfl rfl) (gk_dec (fun h165 => ?_) (fun h165 => ?_)))
                · exfalso; omega
                refine gl_op <| op_rd rfl (rd_pick_f rfl rfl) <| gl_nil <| gx_then <| gc_cond_f rfl <| gc_skip <| gx_block <| gx_then <| gc_region <| gl_op <| op_rd rfl (rd_move rfl) <| gl_op (op_rd rfl (by exact rd_addN (b := 1) rfl rfl (by omega)) ?_)
                refine gl_op <| op_rd rfl (rd_assign rfl) <| gl_nil <| gx_then ?_
                exact gx_cut ((k + 1, b)) ⟨⟨by simp only; omega, hpb⟩, by simp only; omega⟩ ⟨rfl, rfl, rfl, rfl, rfl, rfl, trivial⟩ ⟨[1, 2, 3], by decide, rfl⟩
              refine gl_yes rfl rfl <| op_rd rfl (rd_move rfl) <| gl_no rfl rfl rfl <| gl_no rfl rfl rfl <| gl_no rfl rfl rfl <| gl_no rfl rfl rfl <| gl_no rfl rfl rfl <| gl_no rfl rfl rfl <| gl_no rfl rfl rfl <| gl_no rfl rfl rfl <| gl_yes rfl rfl <| op_rd rfl (rd_pick_f rfl rfl) <| gl_op <| op_rd rfl (rd_pick_f rfl rfl) <| gl_nil <| gx_then <| gc_cond_f rfl <| gc_skip <| gx_then <| gc_seq <| gc_drawP [0, 1, 2, 3] true 7 rfl <| ga_first 0 (bm 8 1) rfl rfl rfl rfl (by kernel_rfl) (by kernel_rfl) ⟨[0, 1, 2, 3], by decide, rfl⟩ (qt_rd (rd_fieldAddr rfl (fa_67_2 _))) ?_
              refine ga_first 1 (bm 8 3) rfl rfl rfl rfl (by kernel_rfl) (by kernel_rfl) ⟨[0, 1, 2, 3], by decide, rfl⟩ (qt_rd (rd_load Tryd.underlying3 rfl rfl (by exact ld_blk 0 rfl rfl))) ?_
              refine ga_first 2 (bm 8 7) rfl rfl rfl rfl (by kernel_rfl) (by kernel_rfl) ⟨[0, 1, 2, 3], by decide, rfl⟩ (qt_rd (rd_move rfl)) ?_
              refine ga_first 3 (bm 8 15) rfl rfl rfl rfl (by kernel_rfl) (by kernel_rfl) ⟨[0, 1, 2, 3], by decide, rfl⟩ (qt_rd (rd_fieldAddr rfl (fa_67_3 _))) ?_
              refine ga_first 4 (bm 8 31) rfl rfl rfl rfl (by kernel_rfl) (by kernel_rfl) ⟨[0, 1, 2, 3], by decide, rfl⟩ (qt_rd (rd_load Tryd.underlying3 rfl rfl (by exact ld_blk 0 rfl rfl))) ?_
              refine ga_first 5 (bm 8 63) rfl rfl rfl rfl (by kernel_rfl) (by kernel_rfl) ⟨[0, 1, 2, 3], by decide, rfl⟩ (qt_rd (rd_add rfl rfl (by omega) (by omega))) ?_
              refine ga_first 6 (bm 8 127) rfl rfl rfl rfl (by kernel_rfl) (by kernel_rfl) ⟨[0, 1, 2, 3], by decide, rfl⟩ (qt_rd (rd_assign rfl)) ?_
              refine ga_first 7 (bm 8 255) rfl rfl rfl rfl (by kernel_rfl) (by kernel_rfl) ⟨[0, 1, 2, 3], by decide, rfl⟩ (qt_rd (rd_assign rfl)) ?_
              refine ga_end (by kernel_rfl) (.inr ⟨[0, 1, 2, 3], by decide, rfl⟩) ?_
              refine gx_then <| gc_seq ?_
              rw [hkey, hdst]
              refine gc_region <| gl_op <| op_rd rfl (rd_move rfl) <| gl_op (op_rd rfl (rd_lss rfl rfl) (gk_dec (fun h139 => ?_) (fun h139 => ?_)))
              · exfalso; omega
              refine gl_op <| op_rd rfl (rd_move rfl) <| gl_yes rfl rfl <| op_rd rfl (rd_move rfl) <| gl_yes rfl rfl <| op_rd rfl (rd_fieldAddr rfl (fa_27_0 _)) <| gl_yes rfl rfl (op_rd rfl (rd_load Tryd.underlying22 rfl rfl (by exact ld_blk 3 rfl rfl)) ?_)
              refine gl_yes rfl rfl <| op_rd rfl (rd_lenSlice Tryd.underlying22 rfl) <| gl_yes rfl rfl (op_rd rfl (rd_geq rfl rfl) (gk_dec (fun h145 => ?_) (fun h145 => ?_)))
              · exfalso; omega
              refine gl_op <| op_rd rfl (rd_pick_f rfl rfl) <| gl_op <| op_rd rfl (rd_move rfl) <| gl_yes rfl rfl <| op_rd rfl (rd_move rfl) <| gl_yes rfl rfl <| op_rd rfl (rd_fieldAddr rfl (fa_27_0 _)) <| gl_yes rfl rfl (op_rd rfl (rd_load Tryd.underlying22 rfl rfl (by exact ld_blk 3 rfl rfl)) ?_)
              refine gl_yes rfl rfl <| op_rd rfl (rd_move rfl) <| gl_yes rfl rfl (op_rd rfl (rd_indexOld hS.d Tryd.underlying22 ty_65 rfl rfl (by omega) (by omega)) ?_)
              refine gl_yes rfl rfl <| op_rd rfl (rd_fieldAddr rfl (fa_65_1 _)) <| gl_yes rfl rfl (op_rd rfl (rd_load Tryd.underlying3 rfl rfl (ld_slf hS.d (get_flat Dv.cells 3 (fun _ => rfl) hd (j := 1) (by decide) rfl))) ?_)
              refine gl_yes rfl rfl (op_rd rfl (rd_lss rfl rfl) (gk_dec (fun h155 => ?_) (fun h155 => ?_)))
              · exfalso; omega
              refine gl_op <| op_rd rfl (rd_pick_f rfl rfl) <| gl_op <| op_rd rfl (rd_move rfl) <| gl_yes rfl rfl <| op_rd rfl (rd_move rfl) <| gl_yes rfl rfl <| op_rd rfl (rd_fieldAddr rfl (fa_27_0 _)) <| gl_yes rfl rfl (op_rd rfl (rd_load Tryd.underlying22 rfl rfl (by exact ld_blk 3 rfl rfl)) ?_)
              refine gl_yes rfl rfl <| op_rd rfl (rd_move rfl) <| gl_yes rfl rfl (op_rd rfl (rd_indexOld hS.d Tryd.underlying22 ty_65 rfl rfl (by omega) (by omega)) ?_)
              refine gl_yes rfl rfl <| op_rd rfl (rd_fieldAddr rfl (fa_65_2 _)) <| gl_yes rfl rfl (op_rd rfl (rd_load Tryd.underlying3 rfl rfl (ld_slf hS.d (get_flat Dv.cells 3 (fun _ => rfl) hd (j := 2) (by decide) rfl))) ?_)
              refine gl_yes rfl rfl (op_rd rfl (rd_gtr rfl rfl) (gk_dec (fun h165 => ?_) (fun h165 => ?_)))
              · exfalso; omega
              refine gl_op <| op_rd rfl (rd_pick_f rfl rfl) <| gl_nil <| gx_then <| gc_cond_f rfl <| gc_skip <| gx_block <| gx_then <| gc_region <| gl_op <| op_rd rfl (rd_move rfl) <| gl_op (op_rd rfl (by exact rd_addN (b := 1) rfl rfl (by omega)) ?_)
              refine gl_op <| op_rd rfl (rd_assign rfl) <| gl_nil <| gx_then ?_
              exact gx_cut ((k + 1, b)) ⟨⟨by simp only; omega, hpb⟩, by simp only; omega⟩ ⟨rfl, rfl, rfl, rfl, rfl, rfl, trivial⟩ ⟨[1, 2, 3], by decide, rfl⟩
            refine gl_yes rfl rfl <| op_rd rfl (rd_move rfl) <| gl_no rfl rfl rfl <| gl_no rfl rfl rfl <| gl_no rfl rfl rfl <| gl_no rfl rfl rfl <| gl_no rfl rfl rfl <| gl_yes rfl rfl <| op_rd rfl (rd_pick_f rfl rfl) <| gl_op <| op_rd rfl (rd_pick_f rfl rfl) <| gl_op <| op_rd rfl (rd_move rfl) <| gl_yes rfl rfl <| op_rd rfl (rd_fieldAddr rfl (fa_67_4 _)) <| gl_yes rfl rfl (op_rd rfl (rd_load Tryd.underlying3 rfl rfl (by exact ld_blk 0 rfl rfl)) ?_)
            refine gl_yes rfl rfl (op_rd rfl (rd_eql rfl rfl) (gk_dec (fun h120 => ?_) (fun h120 => ?_)))
            · have hm9 := hmel h120
              have hkl := (List.getElem?_eq_some_iff.1 hm9).1
              refine gl_yes rfl rfl <| op_rd rfl (rd_move rfl) <| gl_yes rfl rfl <| op_rd rfl (rd_move rfl) <| gl_yes rfl rfl <| op_rd rfl (rd_move rfl) <| gl_yes rfl rfl <| op_rd rfl (rd_move rfl) <| gl_yes rfl rfl <| op_rd rfl (rd_lenSlice Tryd.underlying29 rfl) <| gl_yes rfl rfl (op_rd rfl (by exact rd_subN (b := 1) rfl rfl (by omega) (by omega)) ?_)
              refine gl_yes rfl rfl (op_rd rfl (rd_indexOld1 (hH.r r0 hr0m) Tryd.underlying29 ty_3 rfl rfl (by omega) (by omega)) ?_)
              refine gl_yes rfl rfl <| op_rd rfl (rd_load Tryd.underlying3 rfl rfl (ld_slN (hH.r r0 hr0m) (get_nz hm9))) <| gl_yes rfl rfl (op_rd rfl (rd_neq rfl rfl) (gk_dec (fun h129 => ?_) (fun h129 => ?_)))
              · exact absurd rfl h129
              refine gl_yes rfl rfl <| op_rd rfl (rd_pick_t rfl rfl) <| gl_op <| op_rd rfl (rd_pick_f rfl rfl) <| gl_nil <| gx_then <| gc_cond_f rfl <| gc_skip <| gx_then <| gc_seq <| gc_drawP [0, 1, 2, 3] true 7 rfl <| ga_first 0 (bm 8 1) rfl rfl rfl rfl (by kernel_rfl) (by kernel_rfl) ⟨[0, 1, 2, 3], by decide, rfl⟩ (qt_rd (rd_fieldAddr rfl (fa_67_2 _))) ?_
              refine ga_first 1 (bm 8 3) rfl rfl rfl rfl (by kernel_rfl) (by kernel_rfl) ⟨[0, 1, 2, 3], by decide, rfl⟩ (qt_rd (rd_load Tryd.underlying3 rfl rfl (by exact ld_blk 0 rfl rfl))) ?_
              refine ga_first 2 (bm 8 7) rfl rfl rfl rfl (by kernel_rfl) (by kernel_rfl) ⟨[0, 1, 2, 3], by decide, rfl⟩ (qt_rd (rd_move rfl)) ?_
              refine ga_first 3 (bm 8 15) rfl rfl rfl rfl (by kernel_rfl) (by kernel_rfl) ⟨[0, 1, 2, 3], by decide, rfl⟩ (qt_rd (rd_fieldAddr rfl (fa_67_3 _))) ?_
              refine ga_first 4 (bm 8 31) rfl rfl rfl rfl (by kernel_rfl) (by kernel_rfl) ⟨[0, 1, 2, 3], by decide, rfl⟩ (qt_rd (rd_load Tryd.underlying3 rfl rfl (by exact ld_blk 0 rfl rfl))) ?_
              refine ga_first 5 (bm 8 63) rfl rfl rfl rfl (by kernel_rfl) (by kernel_rfl) ⟨[0, 1, 2, 3], by decide, rfl⟩ (qt_rd (rd_add rfl rfl (by omega) (by omega))) ?_
              refine ga_first 6 (bm 8 127) rfl rfl rfl rfl (by kernel_rfl) (by kernel_rfl) ⟨[0, 1, 2, 3], by decide, rfl⟩ (qt_rd (rd_assign rfl)) ?_
              refine ga_first 7 (bm 8 255) rfl rfl rfl rfl (by kernel_rfl) (by kernel_rfl) ⟨[0, 1, 2, 3], by decide, rfl⟩ (qt_rd (rd_assign rfl)) ?_
              refine ga_end (by kernel_rfl) (.inr ⟨[0, 1, 2, 3], by decide, rfl⟩) ?_
              refine gx_then <| gc_seq ?_
              rw [hkey, hdst]
              refine gc_region <| gl_op <| op_rd rfl (rd_move rfl) <| gl_op (op_rd rfl (rd_lss rfl rfl) (gk_dec (fun h139 => ?_) (fun h139 => ?_)))
              · exfalso; omega
              refine gl_op <| op_rd rfl (rd_move rfl) <| gl_yes rfl rfl <| op_rd rfl (rd_move rfl) <| gl_yes rfl rfl <| op_rd rfl (rd_fieldAddr rfl (fa_27_0 _)) <| gl_yes rfl rfl (op_rd rfl (rd_load Tryd.underlying22 rfl rfl (by exact ld_blk 3 rfl rfl)) ?_)
              refine gl_yes rfl rfl <| op_rd rfl (rd_lenSlice Tryd.underlying22 rfl) <| gl_yes rfl rfl (op_rd rfl (rd_geq rfl rfl) (gk_dec (fun h145 => ?_) (fun h145 => ?_)))
              · exfalso; omega
              refine gl_op <| op_rd rfl (rd_pick_f rfl rfl) <| gl_op <| op_rd rfl (rd_move rfl) <| gl_yes rfl rfl <| op_rd rfl (rd_move rfl) <| gl_yes rfl rfl <| op_rd rfl (rd_fieldAddr rfl (fa_27_0 _)) <| gl_yes rfl rfl (op_rd rfl (rd_load Tryd.underlying22 rfl rfl (by exact ld_blk 3 rfl rfl)) ?_)
              refine gl_yes rfl rfl <| op_rd rfl (rd_move rfl) <| gl_yes rfl rfl (op_rd rfl (rd_indexOld hS.d Tryd.underlying22 ty_65 rfl rfl (by omega) (by omega)) ?_)
              refine gl_yes rfl rfl <| op_rd rfl (rd_fieldAddr rfl (fa_65_1 _)) <| gl_yes rfl rfl (op_rd rfl (rd_load Tryd.underlying3 rfl rfl (ld_slf hS.d (get_flat Dv.cells 3 (fun _ => rfl) hd (j := 1) (by decide) rfl))) ?_)
              refine gl_yes rfl rfl (op_rd rfl (rd_lss rfl rfl) (gk_dec (fun h155 => ?_) (fun h155 => ?_)))
              · exfalso; omega
              refine gl_op <| op_rd rfl (rd_pick_f rfl rfl) <| gl_op <| op_rd rfl (rd_move rfl) <| gl_yes rfl rfl <| op_rd rfl (rd_move rfl) <| gl_yes rfl rfl <| op_rd rfl (rd_fieldAddr rfl (fa_27_0 _)) <| gl_yes rfl rfl (op_rd rfl (rd_load Tryd.underlying22 rfl rfl (by exact ld_blk 3 rfl rfl)) ?_)
              refine gl_yes rfl rfl <| op_rd rfl (rd_move rfl) <| gl_yes rfl rfl (op_rd rfl (rd_indexOld hS.d Tryd.underlying22 ty_65 rfl rfl (by omega) (by omega)) ?_)
              refine gl_yes rfl rfl <| op_rd rfl (rd_fieldAddr rfl (fa_65_2 _)) <| gl_yes rfl rfl (op_rd rfl (rd_load Tryd.underlying3 rfl rfl (ld_slf hS.d (get_flat Dv.cells 3 (fun _ => rfl) hd (j := 2) (by decide) rfl))) ?_)
              refine gl_yes rfl rfl (op_rd rfl (rd_gtr rfl rfl) (gk_dec (fun h165 => ?_) (fun h165 => ?_)))
              · exfalso; omega
              refine gl_op <| op_rd rfl (rd_pick_f rfl rfl) <| gl_nil <| gx_then <| gc_cond_f rfl <| gc_skip <| gx_block <| gx_then <| gc_region <| gl_op <| op_rd rfl (rd_move rfl) <| gl_op (op_rd rfl (by exact rd_addN (b := 1) rfl rfl (by omega)) ?_)
              refine gl_op <| op_rd rfl (rd_assign rfl) <| gl_nil <| gx_then ?_
              exact gx_cut ((k + 1, b)) ⟨⟨by simp only; omega, hpb⟩, by simp only; omega⟩ ⟨rfl, rfl, rfl, rfl, rfl, rfl, trivial⟩ ⟨[1, 2, 3], by decide, rfl⟩
            refine gl_yes rfl rfl <| op_rd rfl (rd_move rfl) <| gl_no rfl rfl rfl <| gl_no rfl rfl rfl <| gl_no rfl rfl rfl <| gl_no rfl rfl rfl <| gl_no rfl rfl rfl <| gl_no rfl rfl rfl <| gl_no rfl rfl rfl <| gl_no rfl rfl rfl <| gl_yes rfl rfl <| op_rd rfl (rd_pick_f rfl rfl) <| gl_op <| op_rd rfl (rd_pick_f rfl rfl) <| gl_nil <| gx_then <| gc_cond_f rfl <| gc_skip <| gx_then <| gc_seq <| gc_drawP [0, 1, 2, 3] true 7 rfl <| ga_first 0 (bm 8 1) rfl rfl rfl rfl (by kernel_rfl) (by kernel_rfl) ⟨[0, 1, 2, 3], by decide, rfl⟩ (qt_rd (rd_fieldAddr rfl (fa_67_2 _))) ?_
            refine ga_first 1 (bm 8 3) rfl rfl rfl rfl (by kernel_rfl) (by kernel_rfl) ⟨[0, 1, 2, 3], by decide, rfl⟩ (qt_rd (rd_load Tryd.underlying3 rfl rfl (by exact ld_blk 0 rfl rfl))) ?_
            refine ga_first 2 (bm 8 7) rfl rfl rfl rfl (by kernel_rfl) (by kernel_rfl) ⟨[0, 1, 2, 3], by decide, rfl⟩ (qt_rd (rd_move rfl)) ?_
            refine ga_first 3 (bm 8 15) rfl rfl rfl rfl (by kernel_rfl) (by kernel_rfl) ⟨[0, 1, 2, 3], by decide, rfl⟩ (qt_rd (rd_fieldAddr rfl (fa_67_3 _))) ?_
            refine ga_first 4 (bm 8 31) rfl rfl rfl rfl (by kernel_rfl) (by kernel_rfl) ⟨[0, 1, 2, 3], by decide, rfl⟩ (qt_rd (rd_load Tryd.underlying3 rfl rfl (by exact ld_blk 0 rfl rfl))) ?_
            refine ga_first 5 (bm 8 63) rfl rfl rfl rfl (by kernel_rfl) (by kernel_rfl) ⟨[0, 1, 2, 3], by decide, rfl⟩ (qt_rd (rd_add rfl rfl (by omega) (by omega))) ?_
            refine ga_first 6 (bm 8 127) rfl rfl rfl rfl (by kernel_rfl) (by kernel_rfl) ⟨[0, 1, 2, 3], by decide, rfl⟩ (qt_rd (rd_assign rfl)) ?_
            refine ga_first 7 (bm 8 255) rfl rfl rfl rfl (by kernel_rfl) (by kernel_rfl) ⟨[0, 1, 2, 3], by decide, rfl⟩ (qt_rd (rd_assign rfl)) ?_
            refine ga_end (by kernel_rfl) (.inr ⟨[0, 1, 2, 3], by decide, rfl⟩) ?_
            refine gx_then <| gc_seq ?_
            rw [hkey, hdst]
            refine gc_region <| gl_op <| op_rd rfl (rd_move rfl) <| gl_op (op_rd rfl (rd_lss rfl rfl) (gk_dec (fun h139 => ?_) (fun h139 => ?_)))
            · exfalso; omega
            refine gl_op <| op_rd rfl (rd_move rfl) <| gl_yes rfl rfl <| op_rd rfl (rd_move rfl) <| gl_yes rfl rfl <| op_rd rfl (rd_fieldAddr rfl (fa_27_0 _)) <| gl_yes rfl rfl (op_rd rfl (rd_load Tryd.underlying22 rfl rfl (by exact ld_blk 3 rfl rfl)) ?_)
            refine gl_yes rfl rfl <| op_rd rfl (rd_lenSlice Tryd.underlying22 rfl) <| gl_yes rfl rfl (op_rd rfl (rd_geq rfl rfl) (gk_dec (fun h145 => ?_) (fun h145 => ?_)))
            · exfalso; omega
            refine gl_op <| op_rd rfl (rd_pick_f rfl rfl) <| gl_op <| op_rd rfl (rd_move rfl) <| gl_yes rfl rfl <| op_rd rfl (rd_move rfl) <| gl_yes rfl rfl <| op_rd rfl (rd_fieldAddr rfl (fa_27_0 _)) <| gl_yes rfl rfl (op_rd rfl (rd_load Tryd.underlying22 rfl rfl (by exact ld_blk 3 rfl rfl)) ?_)
            refine gl_yes rfl rfl <| op_rd rfl (rd_move rfl) <| gl_yes rfl rfl (op_rd rfl (rd_indexOld hS.d Tryd.underlying22 ty_65 rfl rfl (by omega) (by omega)) ?_)
            refine gl_yes rfl rfl <| op_rd rfl (rd_fieldAddr rfl (fa_65_1 _)) <| gl_yes rfl rfl (op_rd rfl (rd_load Tryd.underlying3 rfl rfl (ld_slf hS.d (get_flat Dv.cells 3 (fun _ => rfl) hd (j := 1) (by decide) rfl))) ?_)
            refine gl_yes rfl rfl (op_rd rfl (rd_lss rfl rfl) (gk_dec (fun h155 => ?_) (fun h155 => ?_)))
            · exfalso; omega
            refine gl_op <| op_rd rfl (rd_pick_f rfl rfl) <| gl_op <| op_rd rfl (rd_move rfl) <| gl_yes rfl rfl <| op_rd rfl (rd_move rfl) <| gl_yes rfl rfl <| op_rd rfl (rd_fieldAddr rfl (fa_27_0 _)) <| gl_yes rfl rfl (op_rd rfl (rd_load Tryd.underlying22 rfl rfl (by exact ld_blk 3 rfl rfl)) ?_)
            refine gl_yes rfl rfl <| op_rd rfl (rd_move rfl) <| gl_yes rfl rfl (op_rd rfl (rd_indexOld hS.d Tryd.underlying22 ty_65 rfl rfl (by omega) (by omega)) ?_)
            refine gl_yes rfl rfl <| op_rd rfl (rd_fieldAddr rfl (fa_65_2 _)) <| gl_yes rfl rfl (op_rd rfl (rd_load Tryd.underlying3 rfl rfl (ld_slf hS.d (get_flat Dv.cells 3 (fun _ => rfl) hd (j := 2) (by decide) rfl))) ?_)
            refine gl_yes rfl rfl (op_rd rfl (rd_gtr rfl rfl) (gk_dec (fun h165 => ?_) (fun h165 => ?_)))
            · exfalso; omega
            refine gl_op <| op_rd rfl (rd_pick_f rfl rfl) <| gl_nil <| gx_then <| gc_cond_f rfl <| gc_skip <| gx_block <| gx_then <| gc_region <| gl_op <| op_rd rfl (rd_move rfl) <| gl_op (op_rd rfl (by exact rd_addN (b := 1) rfl rfl (by omega)) ?_)
            refine gl_op <| op_rd rfl (rd_assign rfl) <| gl_nil <| gx_then ?_
            exact gx_cut ((k + 1, b)) ⟨⟨by simp only; omega, hpb⟩, by simp only; omega⟩ ⟨rfl, rfl, rfl, rfl, rfl, rfl, trivial⟩ ⟨[1, 2, 3], by decide, rfl⟩
          rw [hthr (fun e => by have h9 := congrArg List.length e; rw [List.length_take, List.length_nil] at h9; omega)] at h101; cases h101
        refine gl_yes rfl rfl <| op_rd rfl (rd_move rfl) <| gl_no rfl rfl rfl <| gl_no rfl rfl rfl <| gl_no rfl rfl rfl <| gl_yes rfl rfl <| op_rd rfl (rd_pick_f rfl rfl) <| gl_op <| op_rd rfl (rd_pick_f rfl rfl) <| gl_op <| op_rd rfl (rd_move rfl) <| gl_yes rfl rfl <| op_rd rfl (rd_fieldAddr rfl (fa_67_4 _)) <| gl_yes rfl rfl (op_rd rfl (rd_load Tryd.underlying3 rfl rfl (by exact ld_blk 0 rfl rfl)) ?_)
        refine gl_yes rfl rfl (op_rd rfl (rd_eql rfl rfl) (gk_dec (fun h108 => ?_) (fun h108 => ?_)))
        · have hb9 := hbass h108
          have hkl := (List.getElem?_eq_some_iff.1 hb9).1
          refine gl_yes rfl rfl <| op_rd rfl (rd_move rfl) <| gl_yes rfl rfl <| op_rd rfl (rd_move rfl) <| gl_yes rfl rfl <| op_rd rfl (rd_move rfl) <| gl_yes rfl rfl (op_rd rfl (rd_indexOld1 (hH.r r0 hr0m) Tryd.underlying29 ty_3 rfl rfl (by omega) (by omega)) ?_)
          refine gl_yes rfl rfl <| op_rd rfl (rd_load Tryd.underlying3 rfl rfl (ld_slN (hH.r r0 hr0m) (get_nz hb9))) <| gl_yes rfl rfl (op_rd rfl (rd_neq rfl rfl) (gk_dec (fun h114 => ?_) (fun h114 => ?_)))
          · exact absurd rfl h114
          refine gl_yes rfl rfl <| op_rd rfl (rd_pick_t rfl rfl) <| gl_op <| op_rd rfl (rd_pick_f rfl rfl) <| gl_op <| op_rd rfl (rd_move rfl) <| gl_yes rfl rfl <| op_rd rfl (rd_fieldAddr rfl (fa_67_4 _)) <| gl_yes rfl rfl (op_rd rfl (rd_load Tryd.underlying3 rfl rfl (by exact ld_blk 0 rfl rfl)) ?_)
          refine gl_yes rfl rfl (op_rd rfl (rd_eql rfl rfl) (gk_dec (fun h120 => ?_) (fun h120 => ?_)))
          · have hm9 := hmel h120
            have hkl := (List.getElem?_eq_some_iff.1 hm9).1
            refine gl_yes rfl rfl <| op_rd rfl (rd_move rfl) <| gl_yes rfl rfl <| op_rd rfl (rd_move rfl) <| gl_yes rfl rfl <| op_rd rfl (rd_move rfl) <| gl_yes rfl rfl <| op_rd rfl (rd_move rfl) <| gl_yes rfl rfl <| op_rd rfl (rd_lenSlice Tryd.underlying29 rfl) <| gl_yes rfl rfl (op_rd rfl (by exact rd_subN (b := 1) rfl rfl (by omega) (by omega)) ?_)
            refine gl_yes rfl rfl (op_rd rfl (rd_indexOld1 (hH.r r0 hr0m) Tryd.underlying29 ty_3 rfl rfl (by omega) (by omega)) ?_)
            refine gl_yes rfl rfl <| op_rd rfl (rd_load Tryd.underlying3 rfl rfl (ld_slN (hH.r r0 hr0m) (get_nz hm9))) <| gl_yes rfl rfl (op_rd rfl (rd_neq rfl rfl) (gk_dec (fun h129 => ?_) (fun h129 => ?_)))
            · exact absurd rfl h129
            refine gl_yes rfl rfl <| op_rd rfl (rd_pick_t rfl rfl) <| gl_op <| op_rd rfl (rd_pick_f rfl rfl) <| gl_nil <| gx_then <| gc_cond_f rfl <| gc_skip <| gx_then <| gc_seq <| gc_drawP [0, 1, 2, 3] true 7 rfl <| ga_first 0 (bm 8 1) rfl rfl rfl rfl (by kernel_rfl) (by kernel_rfl) ⟨[0, 1, 2, 3], by decide, rfl⟩ (qt_rd (rd_fieldAddr rfl (fa_67_2 _))) ?_
            refine ga_first 1 (bm 8 3) rfl rfl rfl rfl (by kernel_rfl) (by kernel_rfl) ⟨[0, 1, 2, 3], by decide, rfl⟩ (qt_rd (rd_load Tryd.underlying3 rfl rfl (by exact ld_blk 0 rfl rfl))) ?_
            refine ga_first 2 (bm 8 7) rfl rfl rfl rfl (by kernel_rfl) (by kernel_rfl) ⟨[0, 1, 2, 3], by decide, rfl⟩ (qt_rd (rd_move rfl)) ?_
            refine ga_first 3 (bm 8 15) rfl rfl rfl rfl (by kernel_rfl) (by kernel_rfl) ⟨[0, 1, 2, 3], by decide, rfl⟩ (qt_rd (rd_fieldAddr rfl (fa_67_3 _))) ?_
            refine ga_first 4 (bm 8 31) rfl rfl rfl rfl (by kernel_rfl) (by kernel_rfl) ⟨[0, 1, 2, 3], by decide, rfl⟩ (qt_rd (rd_load Tryd.underlying3 rfl rfl (by exact ld_blk 0 rfl rfl))) ?_
            refine ga_first 5 (bm 8 63) rfl rfl rfl rfl (by kernel_rfl) (by kernel_rfl) ⟨[0, 1, 2, 3], by decide, rfl⟩ (qt_rd (rd_add rfl rfl (by omega) (by omega))) ?_
            refine ga_first 6 (bm 8 127) rfl rfl rfl rfl (by kernel_rfl) (by kernel_rfl) ⟨[0, 1, 2, 3], by decide, rfl⟩ (qt_rd (rd_assign rfl)) ?_
            refine ga_first 7 (bm 8 255) rfl rfl rfl rfl (by kernel_rfl) (by kernel_rfl) ⟨[0, 1, 2, 3], by decide, rfl⟩ (qt_rd (rd_assign rfl)) ?_
            refine ga_end (by kernel_rfl) (.inr ⟨[0, 1, 2, 3], by decide, rfl⟩) ?_
            refine gx_then <| gc_seq ?_
            rw [hkey, hdst]
            refine gc_region <| gl_op <| op_rd rfl (rd_move rfl) <| gl_op (op_rd rfl (rd_lss rfl rfl) (gk_dec (fun h139 => ?_) (fun h139 => ?_)))
            · exfalso; omega
            refine gl_op <| op_rd rfl (rd_move rfl) <| gl_yes rfl rfl <| op_rd rfl (rd_move rfl) <| gl_yes rfl rfl <| op_rd rfl (rd_fieldAddr rfl (fa_27_0 _)) <| gl_yes rfl rfl (op_rd rfl (rd_load Tryd.underlying22 rfl rfl (by exact ld_blk 3 rfl rfl)) ?_)
            refine gl_yes rfl rfl <| op_rd rfl (rd_lenSlice Tryd.underlying22 rfl) <| gl_yes rfl rfl (op_rd rfl (rd_geq rfl rfl) (gk_dec (fun h145 => ?_) (fun h145 => ?_)))
            · exfalso; omega
            refine gl_op <| op_rd rfl (rd_pick_f rfl rfl) <| gl_op <| op_rd rfl (rd_move rfl) <| gl_yes rfl rfl <| op_rd rfl (rd_move rfl) <| gl_yes rfl rfl <| op_rd rfl (rd_fieldAddr rfl (fa_27_0 _)) <| gl_yes rfl rfl (op_rd rfl (rd_load Tryd.underlying22 rfl rfl (by exact ld_blk 3 rfl rfl)) ?_)
            refine gl_yes rfl rfl <| op_rd rfl (rd_move rfl) <| gl_yes rfl rfl (op_rd rfl (rd_indexOld hS.d Tryd.underlying22 ty_65 rfl rfl (by omega) (by omega)) ?_)
            refine gl_yes rfl rfl <| op_rd rfl (rd_fieldAddr rfl (fa_65_1 _)) <| gl_yes rfl rfl (op_rd rfl (rd_load Tryd.underlying3 rfl rfl (ld_slf hS.d (get_flat Dv.cells 3 (fun _ => rfl) hd (j := 1) (by decide) rfl))) ?_)
            refine gl_yes rfl rfl (op_rd rfl (rd_lss rfl rfl) (gk_dec (fun h155 => ?_) (fun h155 => ?_)))
            · exfalso; omega
            refine gl_op <| op_rd rfl (rd_pick_f rfl rfl) <| gl_op <| op_rd rfl (rd_move rfl) <| gl_yes rfl rfl <| op_rd rfl (rd_move rfl) <| gl_yes rfl rfl <| op_rd rfl (rd_fieldAddr rfl (fa_27_0 _)) <| gl_yes rfl rfl (op_rd rfl (rd_load Tryd.underlying22 rfl rfl (by exact ld_blk 3 rfl rfl)) ?_)
            refine gl_yes rfl rfl <| op_rd rfl (rd_move rfl) <| gl_yes rfl rfl (op_rd rfl (rd_indexOld hS.d Tryd.underlying22 ty_65 rfl rfl (by omega) (by omega)) ?_)
            refine gl_yes rfl rfl <| op_rd rfl (rd_fieldAddr rfl (fa_65_2 _)) <| gl_yes rfl rfl (op_rd rfl (rd_load Tryd.underlying3 rfl rfl (ld_slf hS.d (get_flat Dv.cells 3 (fun _ => rfl) hd (j := 2) (by decide) rfl))) ?_)
            refine gl_yes rfl rfl (op_rd rfl (rd_gtr rfl rfl) (gk_dec (fun h165 => ?_) (fun h165 => ?_)))
            · exfalso; omega
            refine gl_op <| op_rd rfl (rd_pick_f rfl rfl) <| gl_nil <| gx_then <| gc_cond_f rfl <| gc_skip <| gx_block <| gx_then <| gc_region <| gl_op <| op_rd rfl (rd_move rfl) <| gl_op (op_rd rfl (by exact rd_addN (b := 1) rfl rfl (by omega)) ?_)
            refine gl_op <| op_rd rfl (rd_assign rfl) <| gl_nil <| gx_then ?_
            exact gx_cut ((k + 1, b)) ⟨⟨by simp only; omega, hpb⟩, by simp only; omega⟩ ⟨rfl, rfl, rfl, rfl, rfl, rfl, trivial⟩ ⟨[1, 2, 3], by decide, rfl⟩
          refine gl_yes rfl rfl <| op_rd rfl (rd_move rfl) <| gl_no rfl rfl rfl <| gl_no rfl rfl rfl <| gl_no rfl rfl rfl <| gl_no rfl rfl rfl <| gl_no rfl rfl rfl <| gl_no rfl rfl rfl <| gl_no rfl rfl rfl <| gl_no rfl rfl rfl <| gl_yes rfl rfl <| op_rd rfl (rd_pick_f rfl rfl) <| gl_op <| op_rd rfl (rd_pick_f rfl rfl) <| gl_nil <| gx_then <| gc_cond_f rfl <| gc_skip <| gx_then <| gc_seq <| gc_drawP [0, 1, 2, 3] true 7 rfl <| ga_first 0 (bm 8 1) rfl rfl rfl rfl (by kernel_rfl) (by kernel_rfl) ⟨[0, 1, 2, 3], by decide, rfl⟩ (qt_rd (rd_fieldAddr rfl (fa_67_2 _))) ?_
          refine ga_first 1 (bm 8 3) rfl rfl rfl rfl (by kernel_rfl) (by kernel_rfl) ⟨[0, 1, 2, 3], by decide, rfl⟩ (qt_rd (rd_load Tryd.underlying3 rfl rfl (by exact ld_blk 0 rfl rfl))) ?_
          refine ga_first 2 (bm 8 7) rfl rfl rfl rfl (by kernel_rfl) (by kernel_rfl) ⟨[0, 1, 2, 3], by decide, rfl⟩ (qt_rd (rd_move rfl)) ?_
          refine ga_first 3 (bm 8 15) rfl rfl rfl rfl (by kernel_rfl) (by kernel_rfl) ⟨[0, 1, 2, 3], by decide, rfl⟩ (qt_rd (rd_fieldAddr rfl (fa_67_3 _))) ?_
          refine ga_first 4 (bm 8 31) rfl rfl rfl rfl (by kernel_rfl) (by kernel_rfl) ⟨[0, 1, 2, 3], by decide, rfl⟩ (qt_rd (rd_load Tryd.underlying3 rfl rfl (by exact ld_blk 0 rfl rfl))) ?_
          refine ga_first 5 (bm 8 63) rfl rfl rfl rfl (by kernel_rfl) (by kernel_rfl) ⟨[0, 1, 2, 3], by decide, rfl⟩ (qt_rd (rd_add rfl rfl (by omega) (by omega))) ?_
          refine ga_first 6 (bm 8 127) rfl rfl rfl rfl (by kernel_rfl) (by kernel_rfl) ⟨[0, 1, 2, 3], by decide, rfl⟩ (qt_rd (rd_assign rfl)) ?_
          refine ga_first 7 (bm 8 255) rfl rfl rfl rfl (by kernel_rfl) (by kernel_rfl) ⟨[0, 1, 2, 3], by decide, rfl⟩ (qt_rd (rd_assign rfl)) ?_
          refine ga_end (by kernel_rfl) (.inr ⟨[0, 1, 2, 3], by decide, rfl⟩) ?_
          refine gx_then <| gc_seq ?_
          rw [hkey, hdst]
          refine gc_region <| gl_op <| op_rd rfl (rd_move rfl) <| gl_op (op_rd rfl (rd_lss rfl rfl) (gk_dec (fun h139 => ?_) (fun h139 => ?_)))
          · exfalso; omega
          refine gl_op <| op_rd rfl (rd_move rfl) <| gl_yes rfl rfl <| op_rd rfl (rd_move rfl) <| gl_yes rfl rfl <| op_rd rfl (rd_fieldAddr rfl (fa_27_0 _)) <| gl_yes rfl rfl (op_rd rfl (rd_load Tryd.underlying22 rfl rfl (by exact ld_blk 3 rfl rfl)) ?_)
          refine gl_yes rfl rfl <| op_rd rfl (rd_lenSlice Tryd.underlying22 rfl) <| gl_yes rfl rfl (op_rd rfl (rd_geq rfl rfl) (gk_dec (fun h145 => ?_) (fun h145 => ?_)))
          · exfalso; omega
          refine gl_op <| op_rd rfl (rd_pick_f rfl rfl) <| gl_op <| op_rd rfl (rd_move rfl) <| gl_yes rfl rfl <| op_rd rfl (rd_move rfl) <| gl_yes rfl rfl <| op_rd rfl (rd_fieldAddr rfl (fa_27_0 _)) <| gl_yes rfl rfl (op_rd rfl (rd_load Tryd.underlying22 rfl rfl (by exact ld_blk 3 rfl rfl)) ?_)
          refine gl_yes rfl rfl <| op_rd rfl (rd_move rfl) <| gl_yes rfl rfl (op_rd rfl (rd_indexOld hS.d Tryd.underlying22 ty_65 rfl rfl (by omega) (by omega)) ?_)
          refine gl_yes rfl rfl <| op_rd rfl (rd_fieldAddr rfl (fa_65_1 _)) <| gl_yes rfl rfl (op_rd rfl (rd_load Tryd.underlying3 rfl rfl (ld_slf hS.d (get_flat Dv.cells 3 (fun _ => rfl) hd (j := 1) (by decide) rfl))) ?_)
          refine gl_yes rfl rfl (op_rd rfl (rd_lss rfl rfl) (gk_dec (fun h155 => ?_) (fun h155 => ?_)))
          · exfalso; omega
          refine gl_op <| op_rd rfl (rd_pick_f rfl rfl) <| gl_op <| op_rd rfl (rd_move rfl) <| gl_yes rfl rfl <| op_rd rfl (rd_move rfl) <| gl_yes rfl rfl <| op_rd rfl (rd_fieldAddr rfl (fa_27_0 _)) <| gl_yes rfl rfl (op_rd rfl (rd_load Tryd.underlying22 rfl rfl (by exact ld_blk 3 rfl rfl)) ?_)
          refine gl_yes rfl rfl <| op_rd rfl (rd_move rfl) <| gl_yes rfl rfl (op_rd rfl (rd_indexOld hS.d Tryd.underlying22 ty_65 rfl rfl (by omega) (by omega)) ?_)
          refine gl_yes rfl rfl <| op_rd rfl (rd_fieldAddr rfl (fa_65_2 _)) <| gl_yes rfl rfl (op_rd rfl (rd_load Tryd.underlying3 rfl rfl (ld_slf hS.d (get_flat Dv.cells 3 (fun _ => rfl) hd (j := 2) (by decide) rfl))) ?_)
          refine gl_yes rfl rfl (op_rd rfl (rd_gtr rfl rfl) (gk_dec (fun h165 => ?_) (fun h165 => ?_)))
          · exfalso; omega
          refine gl_op <| op_rd rfl (rd_pick_f rfl rfl) <| gl_nil <| gx_then <| gc_cond_f rfl <| gc_skip <| gx_block <| gx_then <| gc_region <| gl_op <| op_rd rfl (rd_move rfl) <| gl_op (op_rd rfl (by exact rd_addN (b := 1) rfl rfl (by omega)) ?_)
          refine gl_op <| op_rd rfl (rd_assign rfl) <| gl_nil <| gx_then ?_
          exact gx_cut ((k + 1, b)) ⟨⟨by simp only; omega, hpb⟩, by simp only; omega⟩ ⟨rfl, rfl, rfl, rfl, rfl, rfl, trivial⟩ ⟨[1, 2, 3], by decide, rfl⟩
        refine gl_yes rfl rfl <| op_rd rfl (rd_move rfl) <| gl_no rfl rfl rfl <| gl_no rfl rfl rfl <| gl_no rfl rfl rfl <| gl_no rfl rfl rfl <| gl_no rfl rfl rfl <| gl_yes rfl rfl <| op_rd rfl (rd_pick_f rfl rfl) <| gl_op <| op_rd rfl (rd_pick_f rfl rfl) <| gl_op <| op_rd rfl (rd_move rfl) <| gl_yes rfl rfl <| op_rd rfl (rd_fieldAddr rfl (fa_67_4 _)) <| gl_yes rfl rfl (op_rd rfl (rd_load Tryd.underlying3 rfl rfl (by exact ld_blk 0 rfl rfl)) ?_)
        refine gl_yes rfl rfl (op_rd rfl (rd_eql rfl rfl) (gk_dec (fun h120 => ?_) (fun h120 => ?_)))
        · have hm9 := hmel h120
          have hkl := (List.getElem?_eq_some_iff.1 hm9).1
          refine gl_yes rfl rfl <| op_rd rfl (rd_move rfl) <| gl_yes rfl rfl <| op_rd rfl (rd_move rfl) <| gl_yes rfl rfl <| op_rd rfl (rd_move rfl) <| gl_yes rfl rfl <| op_rd rfl (rd_move rfl) <| gl_yes rfl rfl <| op_rd rfl (rd_lenSlice Tryd.underlying29 rfl) <| gl_yes rfl rfl (op_rd rfl (by exact rd_subN (b := 1) rfl rfl (by omega) (by omega)) ?_)
          refine gl_yes rfl rfl (op_rd rfl (rd_indexOld1 (hH.r r0 hr0m) Tryd.underlying29 ty_3 rfl rfl (by omega) (by omega)) ?_)
          refine gl_yes rfl rfl <| op_rd rfl (rd_load Tryd.underlying3 rfl rfl (ld_slN (hH.r r0 hr0m) (get_nz hm9))) <| gl_yes rfl rfl (op_rd rfl (rd_neq rfl rfl) (gk_dec (fun h129 => ?_) (fun h129 => ?_)))
          · exact absurd rfl h129
          refine gl_yes rfl rfl <| op_rd rfl (rd_pick_t rfl rfl) <| gl_op <| op_rd rfl (rd_pick_f rfl rfl) <| gl_nil <| gx_then <| gc_cond_f rfl <| gc_skip <| gx_then <| gc_seq <| gc_drawP [0, 1, 2, 3] true 7 rfl <| ga_first 0 (bm 8 1) rfl rfl rfl rfl (by kernel_rfl) (by kernel_rfl) ⟨[0, 1, 2, 3], by decide, rfl⟩ (qt_rd (rd_fieldAddr rfl (fa_67_2 _))) ?_
          refine ga_first 1 (bm 8 3) rfl rfl rfl rfl (by kernel_rfl) (by kernel_rfl) ⟨[0, 1, 2, 3], by decide, rfl⟩ (qt_rd (rd_load Tryd.underlying3 rfl rfl (by exact ld_blk 0 rfl rfl))) ?_
          refine ga_first 2 (bm 8 7) rfl rfl rfl rfl (by kernel_rfl) (by kernel_rfl) ⟨[0, 1, 2, 3], by decide, rfl⟩ (qt_rd (rd_move rfl)) ?_
          refine ga_first 3 (bm 8 15) rfl rfl rfl rfl (by kernel_rfl) (by kernel_rfl) ⟨[0, 1, 2, 3], by decide, rfl⟩ (qt_rd (rd_fieldAddr rfl (fa_67_3 _))) ?_
          refine ga_first 4 (bm 8 31) rfl rfl rfl rfl (by kernel_rfl) (by kernel_rfl) ⟨[0, 1, 2, 3], by decide, rfl⟩ (qt_rd (rd_load Tryd.underlying3 rfl rfl (by exact ld_blk 0 rfl rfl))) ?_
          refine ga_first 5 (bm 8 63) rfl rfl rfl rfl (by kernel_rfl) (by kernel_rfl) ⟨[0, 1, 2, 3], by decide, rfl⟩ (qt_rd (rd_add rfl rfl (by omega) (by omega))) ?_
          refine ga_first 6 (bm 8 127) rfl rfl rfl rfl (by kernel_rfl) (by kernel_rfl) ⟨[0, 1, 2, 3], by decide, rfl⟩ (qt_rd (rd_assign rfl)) ?_
          refine ga_first 7 (bm 8 255) rfl rfl rfl rfl (by kernel_rfl) (by kernel_rfl) ⟨[0, 1, 2, 3], by decide, rfl⟩ (qt_rd (rd_assign rfl)) ?_
          refine ga_end (by kernel_rfl) (.inr ⟨[0, 1, 2, 3], by decide, rfl⟩) ?_
          refine gx_then <| gc_seq ?_
          rw [hkey, hdst]
          refine gc_region <| gl_op <| op_rd rfl (rd_move rfl) <| gl_op (op_rd rfl (rd_lss rfl rfl) (gk_dec (fun h139 => ?_) (fun h139 => ?_)))
          · exfalso; omega
          refine gl_op <| op_rd rfl (rd_move rfl) <| gl_yes rfl rfl <| op_rd rfl (rd_move rfl) <| gl_yes rfl rfl <| op_rd rfl (rd_fieldAddr rfl (fa_27_0 _)) <| gl_yes rfl rfl (op_rd rfl (rd_load Tryd.underlying22 rfl rfl (by exact ld_blk 3 rfl rfl)) ?_)
          refine gl_yes rfl rfl <| op_rd rfl (rd_lenSlice Tryd.underlying22 rfl) <| gl_yes rfl rfl (op_rd rfl (rd_geq rfl rfl) (gk_dec (fun h145 => ?_) (fun h145 => ?_)))
          · exfalso; omega
          refine gl_op <| op_rd rfl (rd_pick_f rfl rfl) <| gl_op <| op_rd rfl (rd_move rfl) <| gl_yes rfl rfl <| op_rd rfl (rd_move rfl) <| gl_yes rfl rfl <| op_rd rfl (rd_fieldAddr rfl (fa_27_0 _)) <| gl_yes rfl rfl (op_rd rfl (rd_load Tryd.underlying22 rfl rfl (by exact ld_blk 3 rfl rfl)) ?_)
          refine gl_yes rfl rfl <| op_rd rfl (rd_move rfl) <| gl_yes rfl rfl (op_rd rfl (rd_indexOld hS.d Tryd.underlying22 ty_65 rfl rfl (by omega) (by omega)) ?_)
          refine gl_yes rfl rfl <| op_rd rfl (rd_fieldAddr rfl (fa_65_1 _)) <| gl_yes rfl rfl (op_rd rfl (rd_load Tryd.underlying3 rfl rfl (ld_slf hS.d (get_flat Dv.cells 3 (fun _ => rfl) hd (j := 1) (by decide) rfl))) ?_)
          refine gl_yes rfl rfl (op_rd rfl (rd_lss rfl rfl) (gk_dec (fun h155 => ?_) (fun h155 => ?_)))
          · exfalso; omega
          refine gl_op <| op_rd rfl (rd_pick_f rfl rfl) <| gl_op <| op_rd rfl (rd_move rfl) <| gl_yes rfl rfl <| op_rd rfl (rd_move rfl) <| gl_yes rfl rfl <| op_rd rfl (rd_fieldAddr rfl (fa_27_0 _)) <| gl_yes rfl rfl (op_rd rfl (rd_load Tryd.underlying22 rfl rfl (by exact ld_blk 3 rfl rfl)) ?_)
          refine gl_yes rfl rfl <| op_rd rfl (rd_move rfl) <| gl_yes rfl rfl (op_rd rfl (rd_indexOld hS.d Tryd.underlying22 ty_65 rfl rfl (by omega) (by omega)) ?_)
          refine gl_yes rfl rfl <| op_rd rfl (rd_fieldAddr rfl (fa_65_2 _)) <| gl_yes rfl rfl (op_rd rfl (rd_load Tryd.underlying3 rfl rfl (ld_slf hS.d (get_flat Dv.cells 3 (fun _ => rfl) hd (j := 2) (by decide) rfl))) ?_)
          refine gl_yes rfl rfl (op_rd rfl (rd_gtr rfl rfl) (gk_dec (fun h165 => ?_) (fun h165 => ?_)))
          · exfalso; omega
          refine gl_op <| op_rd rfl (rd_pick_f rfl rfl) <| gl_nil <| gx_then <| gc_cond_f rfl <| gc_skip <| gx_block <| gx_then <| gc_region <| gl_op <| op_rd rfl (rd_move rfl) <| gl_op (op_rd rfl (by exact rd_addN (b := 1) rfl rfl (by omega)) ?_)
          refine gl_op <| op_rd rfl (rd_assign rfl) <| gl_nil <| gx_then ?_
          exact gx_cut ((k + 1, b)) ⟨⟨by simp only; omega, hpb⟩, by simp only; omega⟩ ⟨rfl, rfl, rfl, rfl, rfl, rfl, trivial⟩ ⟨[1, 2, 3], by decide, rfl⟩
        refine gl_yes rfl rfl <| op_rd rfl (rd_move rfl) <| gl_no rfl rfl rfl <| gl_no rfl rfl rfl <| gl_no rfl rfl rfl <| gl_no rfl rfl rfl <| gl_no rfl rfl rfl <| gl_no rfl rfl rfl <| gl_no rfl rfl rfl <| gl_no rfl rfl rfl <| gl_yes rfl rfl <| op_rd rfl (rd_pick_f rfl rfl) <| gl_op <| op_rd rfl (rd_pick_f rfl rfl) <| gl_nil <| gx_then <| gc_cond_f rfl <| gc_skip <| gx_then <| gc_seq <| gc_drawP [0, 1, 2, 3] true 7 rfl <| ga_first 0 (bm 8 1) rfl rfl rfl rfl (by kernel_rfl) (by kernel_rfl) ⟨[0, 1, 2, 3], by decide, rfl⟩ (qt_rd (rd_fieldAddr rfl (fa_67_2 _))) ?_
        refine ga_first 1 (bm 8 3) rfl rfl rfl rfl (by kernel_rfl) (by kernel_rfl) ⟨[0, 1, 2, 3], by decide, rfl⟩ (qt_rd (rd_load Tryd.underlying3 rfl rfl (by exact ld_blk 0 rfl rfl))) ?_
        refine ga_first 2 (bm 8 7) rfl rfl rfl rfl (by kernel_rfl) (by kernel_rfl) ⟨[0, 1, 2, 3], by decide, rfl⟩ (qt_rd (rd_move rfl)) ?_
        refine ga_first 3 (bm 8 15) rfl rfl rfl rfl (by kernel_rfl) (by kernel_rfl) ⟨[0, 1, 2, 3], by decide, rfl⟩ (qt_rd (rd_fieldAddr rfl (fa_67_3 _))) ?_
        refine ga_first 4 (bm 8 31) rfl rfl rfl rfl (by kernel_rfl) (by kernel_rfl) ⟨[0, 1, 2, 3], by decide, rfl⟩ (qt_rd (rd_load Tryd.underlying3 rfl rfl (by exact ld_blk 0 rfl rfl))) ?_
        refine ga_first 5 (bm 8 63) rfl rfl rfl rfl (by kernel_rfl) (by kernel_rfl) ⟨[0, 1, 2, 3], by decide, rfl⟩ (qt_rd (rd_add rfl rfl (by omega) (by omega))) ?_
        refine ga_first 6 (bm 8 127) rfl rfl rfl rfl (by kernel_rfl) (by kernel_rfl) ⟨[0, 1, 2, 3], by decide, rfl⟩ (qt_rd (rd_assign rfl)) ?_
        refine ga_first 7 (bm 8 255) rfl rfl rfl rfl (by kernel_rfl) (by kernel_rfl) ⟨[0, 1, 2, 3], by decide, rfl⟩ (qt_rd (rd_assign rfl)) ?_
        refine ga_end (by kernel_rfl) (.inr ⟨[0, 1, 2, 3], by decide, rfl⟩) ?_
        refine gx_then <| gc_seq ?_
        rw [hkey, hdst]
        refine gc_region <| gl_op <| op_rd rfl (rd_move rfl) <| gl_op (op_rd rfl (rd_lss rfl rfl) (gk_dec (fun h139 => ?_) (fun h139 => ?_)))
        · exfalso; omega
        refine gl_op <| op_rd rfl (rd_move rfl) <| gl_yes rfl rfl <| op_rd rfl (rd_move rfl) <| gl_yes rfl rfl <| op_rd rfl (rd_fieldAddr rfl (fa_27_0 _)) <| gl_yes rfl rfl (op_rd rfl (rd_load Tryd.underlying22 rfl rfl (by exact ld_blk 3 rfl rfl)) ?_)
        refine gl_yes rfl rfl <| op_rd rfl (rd_lenSlice Tryd.underlying22 rfl) <| gl_yes rfl rfl (op_rd rfl (rd_geq rfl rfl) (gk_dec (fun h145 => ?_) (fun h145 => ?_)))
        · exfalso; omega
        refine gl_op <| op_rd rfl (rd_pick_f rfl rfl) <| gl_op <| op_rd rfl (rd_move rfl) <| gl_yes rfl rfl <| op_rd rfl (rd_move rfl) <| gl_yes rfl rfl <| op_rd rfl (rd_fieldAddr rfl (fa_27_0 _)) <| gl_yes rfl rfl (op_rd rfl (rd_load Tryd.underlying22 rfl rfl (by exact ld_blk 3 rfl rfl)) ?_)
        refine gl_yes rfl rfl <| op_rd rfl (rd_move rfl) <| gl_yes rfl rfl (op_rd rfl (rd_indexOld hS.d Tryd.underlying22 ty_65 rfl rfl (by omega) (by omega)) ?_)
        refine gl_yes rfl rfl <| op_rd rfl (rd_fieldAddr rfl (fa_65_1 _)) <| gl_yes rfl rfl (op_rd rfl (rd_load Tryd.underlying3 rfl rfl (ld_slf hS.d (get_flat Dv.cells 3 (fun _ => rfl) hd (j := 1) (by decide) rfl))) ?_)
        refine gl_yes rfl rfl (op_rd rfl (rd_lss rfl rfl) (gk_dec (fun h155 => ?_) (fun h155 => ?_)))
        · exfalso; omega
        refine gl_op <| op_rd rfl (rd_pick_f rfl rfl) <| gl_op <| op_rd rfl (rd_move rfl) <| gl_yes rfl rfl <| op_rd rfl (rd_move rfl) <| gl_yes rfl rfl <| op_rd rfl (rd_fieldAddr rfl (fa_27_0 _)) <| gl_yes rfl rfl (op_rd rfl (rd_load Tryd.underlying22 rfl rfl (by exact ld_blk 3 rfl rfl)) ?_)
        refine gl_yes rfl rfl <| op_rd rfl (rd_move rfl) <| gl_yes rfl rfl (op_rd rfl (rd_indexOld hS.d Tryd.underlying22 ty_65 rfl rfl (by omega) (by omega)) ?_)
        refine gl_yes rfl rfl <| op_rd rfl (rd_fieldAddr rfl (fa_65_2 _)) <| gl_yes rfl rfl (op_rd rfl (rd_load Tryd.underlying3 rfl rfl (ld_slf hS.d (get_flat Dv.cells 3 (fun _ => rfl) hd (j := 2) (by decide) rfl))) ?_)
        refine gl_yes rfl rfl (op_rd rfl (rd_gtr rfl rfl) (gk_dec (fun h165 => ?_) (fun h165 => ?_)))
        · exfalso; omega
        refine gl_op <| op_rd rfl (rd_pick_f rfl rfl) <| gl_nil <| gx_then <| gc_cond_f rfl <| gc_skip <| gx_block <| gx_then <| gc_region <| gl_op <| op_rd rfl (rd_move rfl) <| gl_op (op_rd rfl (by exact rd_addN (b := 1) rfl rfl (by omega)) ?_)
        refine gl_op <| op_rd rfl (rd_assign rfl) <| gl_nil <| gx_then ?_
        exact gx_cut ((k + 1, b)) ⟨⟨by simp only; omega, hpb⟩, by simp only; omega⟩ ⟨rfl, rfl, rfl, rfl, rfl, rfl, trivial⟩ ⟨[1, 2, 3], by decide, rfl⟩
      rw [decide_eq_true him2] at h56; cases h56
    have hk9 : k = u.ch.length := by omega
    subst hk9
    rw [List.take_length] at hpa
    obtain rfl : a = (u.d, u.n) := Path.fwd _ rfl hpa hp
    refine gl_nil <| gx_then <| gc_cond_f rfl <| gc_exit <| gx_then_exit <| gx_then_exit <| gx_block_exit <| gx_then <| gc_seq <| gc_region <| gl_op <| op_rd rfl (rd_move rfl) <| gl_op <| op_rd rfl (rd_fieldAddr rfl (fa_44_3 _)) <| gl_op (op_rd rfl (rd_load Tryd.underlying3 rfl rfl (by exact ld_blk 0 rfl rfl)) ?_)
    refine gl_op (op_rd rfl (rd_eql rfl rfl) (gk_dec (fun h170 => ?_) (fun h170 => ?_)))
    · refine gl_op <| op_rd rfl (rd_move rfl) <| gl_yes rfl rfl <| op_rd rfl (rd_move rfl) <| gl_yes rfl rfl <| op_rd rfl (rd_fieldAddr rfl (fa_44_4 _)) <| gl_yes rfl rfl (op_rd rfl (rd_load Tryd.underlying3 rfl rfl (by exact ld_blk 0 rfl rfl)) ?_)
      refine gl_yes rfl rfl (op_rd rfl (rd_eql rfl rfl) (gk_dec (fun h175 => ?_) (fun h175 => ?_)))
      · refine gl_op <| op_rd rfl (rd_pick_t rfl rfl) <| gl_op <| op_rd rfl (rd_assign rfl) <| gl_nil <| gx_then <| gc_ret <| gx_ret1 (.inl rfl) Tryd.results24 rfl [] (by decide) ?_
        exact ⟨rfl, rfl⟩
      exact absurd rfl h175
    exact absurd rfl h170
  rw [decide_eq_true hst] at h39; cases h39
end Go.Proofs.YtbjijbbkfgcleaaDoor
namespace Go.Proofs.YtbjijbbkfgcleaaDoor
open Go.Gv
open Go.RowKit
open Go.Sn
open Sx
end Go.Proofs.YtbjijbbkfgcleaaDoor
namespace Go.Proofs.YtbjijbbkfgcleaaDoor
open Go.Gv
open Go.RowKit
open Go.Sn
open Sx
set_option maxRecDepth 100000 in
set_option maxHeartbeats 1000000 in
theorem lawReasons_ok (s : Org) (h : Hd) (hle : OrgLe s) (hhe : HdLe h) (r0 p0 : Int) (w0 : World) (hS : OrgIn s w0 []) (hH : HdIn h w0 []) (hT : TabIn w0) : Sp Tryd.prog 5 [s.val, h.val, .agg #[.int .i64 r0, .int .i64 p0]] w0 [] (RV (.bool true)) := by
  refine spec_enter Tryd.func5 rfl Tryd.ntmps5 rfl (Own.refl _) ?_
  simp only [argEnv]
  refine gc_seq <| gc_region <| gl_op (op_box rfl rfl rfl (fun b3 => ?_))
  refine gl_op (op_box rfl rfl rfl (fun b4 => ?_))
  refine gl_op (op_box rfl rfl rfl (fun b5 => ?_))
  refine gl_op <| op_rd rfl (rd_assign rfl) <| gl_nil <| gx_then <| gc_seq <| gc_seq <| gc_region <| gl_op (op_rd rfl (rd_loadAgg Tryd.underlying27 rfl ty_27 rfl (by exact cs_blk 2 (off := 0) (k := 4) rfl rfl) rfl) ?_)
  refine gl_op (op_call rfl (vf := []) (vc := []) rfl rfl Tryd.call9 (fun w1 ho => far10_ok s hle w1 (hS.at ho)) ?_)
  rintro _ _ ⟨fa, rfl, rfl⟩
  refine gl_op <| op_rd rfl (rd_move rfl) <| gk_bool (fun h18 => ?_) (fun h18 => ?_)
  · refine gl_no rfl rfl rfl <| gl_no rfl rfl rfl <| gl_op <| op_rd rfl (rd_pick_t rfl rfl) <| gl_op <| op_rd rfl (rd_move rfl) <| gl_no rfl rfl rfl <| gl_no rfl rfl rfl <| gl_no rfl rfl rfl <| gl_op <| op_rd rfl (rd_pick_t rfl rfl) <| gl_nil <| gx_then <| gc_cond_t rfl <| gc_seq <| gc_region <| gl_op (op_call rfl (vf := []) (vc := []) rfl rfl Tryd.call11 (fun w1 ho => shown_ok w1 (hT.at ho (by decide))) ?_)
    rintro _ _ ⟨rfl, rfl⟩
    refine gl_op <| op_rd rfl (rd_assign rfl) <| gl_nil <| gx_then <| gc_ret <| gx_then_ret <| gx_ret1 (.inl rfl) Tryd.results5 rfl [] (by decide) ?_
    exact ⟨rfl, rfl⟩
  refine gl_yes rfl rfl (op_rd rfl (rd_loadAgg Tryd.underlying31 rfl ty_31 rfl (by exact cs_blk 1 (off := 0) (k := 3) rfl rfl) rfl) ?_)
  refine gl_yes rfl rfl (op_call rfl (vf := []) (vc := []) rfl rfl Tryd.call10 (fun w1 ho => far12_ok h hhe w1 (hH.at ho)) ?_)
  rintro _ _ ⟨fb, rfl, rfl⟩
  refine gl_op <| op_rd rfl (rd_pick_f rfl rfl) <| gl_op <| op_rd rfl (rd_move rfl) <| gk_bool (fun h22 => ?_) (fun h22 => ?_)
  · refine gl_no rfl rfl rfl <| gl_no rfl rfl rfl <| gl_no rfl rfl rfl <| gl_op <| op_rd rfl (rd_pick_t rfl rfl) <| gl_nil <| gx_then <| gc_cond_t rfl <| gc_seq <| gc_region <| gl_op (op_call rfl (vf := []) (vc := []) rfl rfl Tryd.call11 (fun w1 ho => shown_ok w1 (hT.at ho (by decide))) ?_)
    rintro _ _ ⟨rfl, rfl⟩
    refine gl_op <| op_rd rfl (rd_assign rfl) <| gl_nil <| gx_then <| gc_ret <| gx_then_ret <| gx_ret1 (.inl rfl) Tryd.results5 rfl [] (by decide) ?_
    exact ⟨rfl, rfl⟩
  refine gl_yes rfl rfl (op_rd rfl (rd_loadAgg Tryd.underlying27 rfl ty_27 rfl (by exact cs_blk 2 (off := 0) (k := 4) rfl rfl) rfl) ?_)
  refine gl_yes rfl rfl (op_rd rfl (rd_loadAgg Tryd.underlying31 rfl ty_31 rfl (by exact cs_blk 1 (off := 0) (k := 3) rfl rfl) rfl) ?_)
  refine gl_yes rfl rfl (op_call rfl (vf := []) (vc := []) rfl rfl Tryd.call20 (fun w1 ho => large_ok s hle h w1 (hS.at ho)) ?_)
  rintro _ _ ⟨fc, rfl, rfl⟩
  refine gl_op <| op_rd rfl (rd_pick_f rfl rfl) <| gk_bool (fun h26 => ?_) (fun h26 => ?_)
  · refine gl_nil <| gx_then <| gc_cond_t rfl <| gc_seq <| gc_region <| gl_op (op_call rfl (vf := []) (vc := []) rfl rfl Tryd.call11 (fun w1 ho => shown_ok w1 (hT.at ho (by decide))) ?_)
    rintro _ _ ⟨rfl, rfl⟩
    refine gl_op <| op_rd rfl (rd_assign rfl) <| gl_nil <| gx_then <| gc_ret <| gx_then_ret <| gx_ret1 (.inl rfl) Tryd.results5 rfl [] (by decide) ?_
    exact ⟨rfl, rfl⟩
  refine gl_nil <| gx_then <| gc_cond_f rfl <| gc_skip <| gx_then <| gc_seq <| gc_region <| gl_op (op_rd rfl (rd_loadAgg Tryd.underlying27 rfl ty_27 rfl (by exact cs_blk 2 (off := 0) (k := 4) rfl rfl) rfl) ?_)
  refine gl_op (op_rd rfl (rd_loadAgg Tryd.underlying31 rfl ty_31 rfl (by exact cs_blk 1 (off := 0) (k := 3) rfl rfl) rfl) ?_)
  refine gl_op (op_call rfl (vf := []) (vc := []) rfl rfl Tryd.call21 (fun w1 ho => Pipes_ok s h hle hhe w1 (hS.at ho) (hH.at ho) (hT.at ho (by decide))) ?_)
  rintro _ _ (⟨he, rfl, rfl⟩ | ⟨he, n, r31, c31, rfl, hg, rfl, rfl⟩)
  · refine gl_op <| op_rd rfl (rd_move rfl) <| gl_op <| op_rd rfl (rd_extract rfl rfl) <| gl_op <| op_rd rfl (rd_extract rfl rfl) <| gl_op <| op_rd rfl (rd_assign rfl) <| gl_op <| op_rd rfl (rd_assign rfl) <| gl_nil <| gx_then <| gc_seq <| gc_seq <| gc_region <| gl_op <| op_rd rfl (rd_move rfl) <| gl_op (op_rd rfl (rd_neq rfl rfl) (gk_dec (fun h35 => ?_) (fun h35 => ?_)))
    · refine gl_nil <| gx_then <| gc_cond_t rfl <| gc_seq <| gc_region <| gl_op (op_call rfl (vf := []) (vc := []) rfl rfl Tryd.call11 (fun w1 ho => shown_ok w1 (hT.at ho (by decide))) ?_)
      rintro _ _ ⟨rfl, rfl⟩
      refine gl_op <| op_rd rfl (rd_assign rfl) <| gl_nil <| gx_then <| gc_ret <| gx_then_ret <| gx_ret1 (.inl rfl) Tryd.results5 rfl [] (by decide) ?_
      exact ⟨rfl, rfl⟩
    exact absurd he (by omega)
  have hN := HNIn.of hH
  simp only [HN.hd_val]
  have hnr := hg.nr
  have hns := hg.ns
  have hssl := asc_len hg.ssA hg.ssN
  have hsl9 := soundP_len s n
  obtain ⟨S, hSS⟩ : ∃ S, soundP s n = S := ⟨_, rfl⟩
  rw [hSS] at hsl9 ⊢
  refine gl_op <| op_rd rfl (rd_move rfl) <| gl_op <| op_rd rfl (rd_extract rfl rfl) <| gl_op <| op_rd rfl (rd_extract rfl rfl) <| gl_op <| op_rd rfl (rd_assign rfl) <| gl_op <| op_rd rfl (rd_assign rfl) <| gl_nil <| gx_then <| gc_seq <| gc_seq <| gc_region <| gl_op <| op_rd rfl (rd_move rfl) <| gl_op (op_rd rfl (rd_neq rfl rfl) (gk_dec (fun h35 => ?_) (fun h35 => ?_)))
  · exact absurd rfl h35
  refine gl_nil <| gx_then <| gc_cond_f rfl <| gc_skip <| gx_then <| gc_seq <| gc_region <| gl_op <| op_rd rfl (rd_assign rfl) <| gl_nil <| gx_then <| gc_seq <| gc_cutF (ι := Unit) [(3, _), (4, _), (5, _), (7, _), (9, _)] [_, _, _, _] (fun _ => True) (fun _ Fr0 => Fr0) (fun _ Fr0 => Fr0) ⟨rfl, rfl, rfl, rfl, rfl, trivial⟩ ⟨[0, 1, 2, 3], by decide, rfl⟩ ?_ ?_
  · refine gc_seq <| gc_region <| gl_op <| op_rd rfl (rd_assign rfl) <| gl_nil <| gx_then <| gc_block <| gc_loopF (ι := Nat) [(3, _), (4, _), (5, _), (7, _), (9, _)] [_, _, _, _] (fun k => k ≤ S.length) (fun k Fr0 => ((10, natV k) :: Fr0)) (fun k Fr0 => Fr0) (fun k => S.length - k) 0 (Nat.zero_le _) ⟨rfl, rfl, rfl, rfl, rfl, rfl, trivial⟩ ⟨[0, 1, 2, 3], by decide, rfl⟩ ?_
    rintro k hk
    refine gc_seq <| gc_seq <| gc_region <| gl_op <| op_rd rfl (rd_move rfl) <| gl_op <| op_rd rfl (rd_move rfl) <| gl_op <| op_rd rfl (rd_lenSlice Tryd.underlying49 rfl) <| gl_op (op_rd rfl (rd_lss rfl rfl) (gk_dec (fun h40 => ?_) (fun h40 => ?_)))
    · refine gl_op <| op_rd rfl (rd_move rfl) <| gl_yes rfl rfl <| op_rd rfl (rd_move rfl) <| gl_yes rfl rfl (op_rd rfl (rd_lss rfl rfl) (gk_dec (fun h43 => ?_) (fun h43 => ?_)))
      · obtain ⟨q, hq⟩ := get_some (show k < S.length by omega)
        obtain ⟨u, hwe, hro⟩ := whyA_sound hg (q := q) (hSS ▸ List.mem_of_getElem? hq)
        obtain ⟨x, hx⟩ := get_some (hg.ssN u.i hro.stop)
        have hxs : stA s u.i = x := getD_some hx
        have hdv := hro.div
        have hpl := hro.plays
        rw [hxs] at hdv hpl
        have hil : u.i < s.ss.length := (List.getElem?_eq_some_iff.1 hx).1
        have hxm := List.mem_of_getElem? hx
        obtain ⟨hv0, hv1, hpo, hp12, hpb⟩ := Go.Sn.stop_ok hg hx
        have hun : u.ch.length ≤ 1000 := hro.len
        refine gl_op <| op_rd rfl (rd_pick_t rfl rfl) <| gl_nil <| gx_then <| gc_cond_t rfl <| gc_skip <| gx_then <| gc_seq <| gc_block <| gc_seq <| gc_drawP [0, 1, 2, 3] false 12 rfl <| ga_first 0 (bm 13 1) rfl rfl rfl rfl (by kernel_rfl) (by kernel_rfl) ⟨[0, 1, 2, 3], by decide, rfl⟩ (qt_rd (rd_loadAgg Tryd.underlying27 rfl ty_27 rfl (by exact cs_blk 3 (off := 0) (k := 4) rfl rfl) rfl)) ?_
        refine ga_first 1 (bm 13 3) rfl rfl rfl rfl (by kernel_rfl) (by kernel_rfl) ⟨[0, 1, 2, 3], by decide, rfl⟩ (qt_rd (rd_loadAgg Tryd.underlying31 rfl ty_31 rfl (by exact cs_blk 2 (off := 0) (k := 3) rfl rfl) rfl)) ?_
        refine ga_first 2 (bm 13 7) rfl rfl rfl rfl (by kernel_rfl) (by kernel_rfl) ⟨[0, 1, 2, 3], by decide, rfl⟩ (qt_rd (rd_move rfl)) ?_
        refine ga_first 3 (bm 13 15) rfl rfl rfl rfl (by kernel_rfl) (by kernel_rfl) ⟨[0, 1, 2, 3], by decide, rfl⟩ (qt_rd (rd_move rfl)) ?_
        refine ga_first 4 (bm 13 31) rfl rfl rfl rfl (by kernel_rfl) (by kernel_rfl) ⟨[0, 1, 2, 3], by decide, rfl⟩ (qt_rd (rd_indexRow 0 rfl Tryd.underlying49 ty_42 rfl rfl (by omega) (by omega))) ?_
        refine ga_first 5 (bm 13 63) rfl rfl rfl rfl (by kernel_rfl) (by kernel_rfl) ⟨[0, 1, 2, 3], by decide, rfl⟩ (qt_rd (rd_loadAgg Tryd.underlying42 rfl ty_42 rfl (cs_row 0 rfl (flat_drop_get plC 2 (fun _ => rfl) hq)) rfl)) ?_
        refine ga_two 6 10 (bm 13 127) (bm 13 1087) rfl rfl rfl rfl (by kernel_rfl) (by kernel_rfl) (by kernel_rfl) (.inr ⟨[0, 1, 2, 3], by decide, rfl⟩) ?_ ?_
        · refine (op_call rfl (vf := []) (vc := []) rfl rfl Tryd.call17 (fun w1 ho => by
            have h9 := whyQ_sp (Why_ok s n.hd hle hhe (q.1 : Int) (q.2 : Int) w1 (hS.at ho) (hH.at ho) (hT.at ho (by decide)))
            rw [HN.hd_val, hwe] at h9
            exact (show Sp _ _ _ _ _ (WhyQ 3 44 u 0) from h9)) ?_)
          rintro _ _ ⟨b54, r54, c54, rfl, rfl⟩
          refine ga_first 7 (bm 13 255) rfl rfl rfl rfl (by kernel_rfl) (by kernel_rfl) ⟨[2, 3, 4, 5], by decide, rfl⟩ (qt_rd (rd_move rfl)) ?_
          refine ga_first 8 (bm 13 511) rfl rfl rfl rfl (by kernel_rfl) (by kernel_rfl) ⟨[2, 3, 4, 5], by decide, rfl⟩ (qt_rd (rd_extract rfl rfl)) ?_
          refine ga_first 9 (bm 13 1023) rfl rfl rfl rfl (by kernel_rfl) (by kernel_rfl) ⟨[2, 3, 4, 5], by decide, rfl⟩ (qt_rd (rd_extract rfl rfl)) ?_
          refine ga_only 10 (bm 13 2047) rfl rfl (by kernel_rfl) (by kernel_rfl) (.inr ⟨[2, 3, 4, 5], by decide, rfl⟩) (op_alloc ty_44 rfl rfl (fun b11 => ?_))
          refine ga_only 11 (bm 13 4095) rfl rfl (by kernel_rfl) (by kernel_rfl) (.inr ⟨[3, 4, 5, 6], by decide, rfl⟩) (op_storeAgg 0 ty_44 rfl rfl rfl rfl rfl rfl (by rfl) ?_)
          refine ga_only 12 (bm 13 8191) rfl rfl (by kernel_rfl) (by kernel_rfl) (.inr ⟨[3, 4, 5, 6], by decide, rfl⟩) (op_rd rfl (rd_assign rfl) ?_)
          refine ga_end (by kernel_rfl) (.inl (by kernel_rfl)) ?_
          refine gx_then <| gc_seq <| gc_drawP [0, 1, 2, 3, 4, 5, 6] true 57 rfl <| ga_first 0 (bm 58 1) rfl rfl rfl rfl (by kernel_rfl) (by kernel_rfl) ⟨[0, 1, 2, 3, 4, 5, 6], by decide, rfl⟩ (qt_rd (rd_move rfl)) ?_
          refine ga_first 1 (bm 58 3) rfl rfl rfl rfl (by kernel_rfl) (by kernel_rfl) ⟨[0, 1, 2, 3, 4, 5, 6], by decide, rfl⟩ (qt_rd (rd_neq rfl rfl)) (gk_dec (fun h58 => ?_) (fun h58 => ?_))
          · exact absurd rfl h58
          refine ga_first 2 (bm 58 7) rfl rfl rfl rfl (by kernel_rfl) (by kernel_rfl) ⟨[0, 1, 2, 3, 4, 5, 6], by decide, rfl⟩ (qt_rd (rd_move rfl)) ?_
          refine ga_firstY 3 (bm 58 15) rfl rfl rfl rfl rfl rfl (by kernel_rfl) (by kernel_rfl) ⟨[0, 1, 2, 3, 4, 5, 6], by decide, rfl⟩ (qt_rd (rd_fieldAddr rfl (fa_31_1 _))) ?_
          refine ga_firstY 4 (bm 58 31) rfl rfl rfl rfl rfl rfl (by kernel_rfl) (by kernel_rfl) ⟨[0, 1, 2, 3, 4, 5, 6], by decide, rfl⟩ (qt_rd (rd_load Tryd.underlying29 rfl rfl (by exact ld_blk 5 rfl rfl))) ?_
          refine ga_firstY 5 (bm 58 63) rfl rfl rfl rfl rfl rfl (by kernel_rfl) (by kernel_rfl) ⟨[0, 1, 2, 3, 4, 5, 6], by decide, rfl⟩ (qt_rd (rd_fieldAddr rfl (fa_44_5 _))) ?_
          refine ga_firstY 6 (bm 58 127) rfl rfl rfl rfl rfl rfl (by kernel_rfl) (by kernel_rfl) ⟨[0, 1, 2, 3, 4, 5, 6], by decide, rfl⟩ (qt_rd (rd_load Tryd.underlying3 rfl rfl (by exact ld_blk 0 rfl rfl))) ?_
          refine ga_onlyY 7 (bm 58 255) rfl rfl rfl rfl (by kernel_rfl) (by kernel_rfl) (.inr ⟨[0, 1, 2, 3, 4, 5, 6], by decide, rfl⟩) (op_call rfl (vf := []) (vc := []) rfl rfl Tryd.call22 (fun w1 ho => in_ok n.ss u.i _ _ (by omega) w1 (hN.t.at ho)) ?_)
          rintro _ _ ⟨rfl, rfl⟩
          refine gk_bool (fun h64 => ?_) (fun h64 => ?_)
          · refine ga_firstY 8 (bm 58 511) rfl rfl rfl rfl rfl rfl (by kernel_rfl) (by kernel_rfl) ⟨[0, 1, 2, 3, 4, 5, 6], by decide, rfl⟩ (qt_rd (rd_not rfl)) ?_
            refine ga_first 9 (bm 58 1023) rfl rfl rfl rfl (by kernel_rfl) (by kernel_rfl) ⟨[0, 1, 2, 3, 4, 5, 6], by decide, rfl⟩ (qt_rd (rd_pick_f rfl rfl)) ?_
            refine ga_first 10 (bm 58 2047) rfl rfl rfl rfl (by kernel_rfl) (by kernel_rfl) ⟨[0, 1, 2, 3, 4, 5, 6], by decide, rfl⟩ (qt_rd (rd_move rfl)) ?_
            refine ga_firstY 11 (bm 58 4095) rfl rfl rfl rfl rfl rfl (by kernel_rfl) (by kernel_rfl) ⟨[0, 1, 2, 3, 4, 5, 6], by decide, rfl⟩ (qt_rd (rd_fieldAddr rfl (fa_44_5 _))) ?_
            refine ga_firstY 12 (bm 58 8191) rfl rfl rfl rfl rfl rfl (by kernel_rfl) (by kernel_rfl) ⟨[0, 1, 2, 3, 4, 5, 6], by decide, rfl⟩ (qt_rd (rd_load Tryd.underlying3 rfl rfl (by exact ld_blk 0 rfl rfl))) ?_
            refine ga_firstY 13 (bm 58 16383) rfl rfl rfl rfl rfl rfl (by kernel_rfl) (by kernel_rfl) ⟨[0, 1, 2, 3, 4, 5, 6], by decide, rfl⟩ (qt_rd (rd_lss rfl rfl)) (gk_dec (fun h70 => ?_) (fun h70 => ?_))
            · exfalso; omega
            refine ga_first 14 (bm 58 32767) rfl rfl rfl rfl (by kernel_rfl) (by kernel_rfl) ⟨[0, 1, 2, 3, 4, 5, 6], by decide, rfl⟩ (qt_rd (rd_pick_f rfl rfl)) ?_
            refine ga_first 15 (bm 58 65535) rfl rfl rfl rfl (by kernel_rfl) (by kernel_rfl) ⟨[0, 1, 2, 3, 4, 5, 6], by decide, rfl⟩ (qt_rd (rd_move rfl)) ?_
            refine ga_firstY 16 (bm 58 131071) rfl rfl rfl rfl rfl rfl (by kernel_rfl) (by kernel_rfl) ⟨[0, 1, 2, 3, 4, 5, 6], by decide, rfl⟩ (qt_rd (rd_fieldAddr rfl (fa_44_5 _))) ?_
            refine ga_firstY 17 (bm 58 262143) rfl rfl rfl rfl rfl rfl (by kernel_rfl) (by kernel_rfl) ⟨[0, 1, 2, 3, 4, 5, 6], by decide, rfl⟩ (qt_rd (rd_load Tryd.underlying3 rfl rfl (by exact ld_blk 0 rfl rfl))) ?_
            refine ga_firstY 18 (bm 58 524287) rfl rfl rfl rfl rfl rfl (by kernel_rfl) (by kernel_rfl) ⟨[0, 1, 2, 3, 4, 5, 6], by decide, rfl⟩ (qt_rd (rd_fieldAddr rfl (fa_27_2 _))) ?_
            refine ga_firstY 19 (bm 58 1048575) rfl rfl rfl rfl rfl rfl (by kernel_rfl) (by kernel_rfl) ⟨[0, 1, 2, 3, 4, 5, 6], by decide, rfl⟩ (qt_rd (rd_load Tryd.underlying24 rfl rfl (by exact ld_blk 6 rfl rfl))) ?_
            refine ga_firstY 20 (bm 58 2097151) rfl rfl rfl rfl rfl rfl (by kernel_rfl) (by kernel_rfl) ⟨[0, 1, 2, 3, 4, 5, 6], by decide, rfl⟩ (qt_rd (rd_lenSlice Tryd.underlying24 rfl)) ?_
            refine ga_firstY 21 (bm 58 4194303) rfl rfl rfl rfl rfl rfl (by kernel_rfl) (by kernel_rfl) ⟨[0, 1, 2, 3, 4, 5, 6], by decide, rfl⟩ (qt_rd (rd_geq rfl rfl)) (gk_dec (fun h78 => ?_) (fun h78 => ?_))
            · exfalso; omega
            refine ga_first 22 (bm 58 8388607) rfl rfl rfl rfl (by kernel_rfl) (by kernel_rfl) ⟨[0, 1, 2, 3, 4, 5, 6], by decide, rfl⟩ (qt_rd (rd_pick_f rfl rfl)) ?_
            refine ga_first 23 (bm 58 16777215) rfl rfl rfl rfl (by kernel_rfl) (by kernel_rfl) ⟨[0, 1, 2, 3, 4, 5, 6], by decide, rfl⟩ (qt_rd (rd_move rfl)) ?_
            refine ga_firstY 24 (bm 58 33554431) rfl rfl rfl rfl rfl rfl (by kernel_rfl) (by kernel_rfl) ⟨[0, 1, 2, 3, 4, 5, 6], by decide, rfl⟩ (qt_rd (rd_fieldAddr rfl (fa_27_2 _))) ?_
            refine ga_firstY 25 (bm 58 67108863) rfl rfl rfl rfl rfl rfl (by kernel_rfl) (by kernel_rfl) ⟨[0, 1, 2, 3, 4, 5, 6], by decide, rfl⟩ (qt_rd (rd_load Tryd.underlying24 rfl rfl (by exact ld_blk 6 rfl rfl))) ?_
            refine ga_firstY 26 (bm 58 134217727) rfl rfl rfl rfl rfl rfl (by kernel_rfl) (by kernel_rfl) ⟨[0, 1, 2, 3, 4, 5, 6], by decide, rfl⟩ (qt_rd (rd_fieldAddr rfl (fa_44_5 _))) ?_
            refine ga_firstY 27 (bm 58 268435455) rfl rfl rfl rfl rfl rfl (by kernel_rfl) (by kernel_rfl) ⟨[0, 1, 2, 3, 4, 5, 6], by decide, rfl⟩ (qt_rd (rd_load Tryd.underlying3 rfl rfl (by exact ld_blk 0 rfl rfl))) ?_
            refine ga_firstY 28 (bm 58 536870911) rfl rfl rfl rfl rfl rfl (by kernel_rfl) (by kernel_rfl) ⟨[0, 1, 2, 3, 4, 5, 6], by decide, rfl⟩ (qt_rd (rd_indexOld hS.t Tryd.underlying24 ty_57 rfl rfl (by omega) (by omega))) ?_
            refine ga_firstY 29 (bm 58 1073741823) rfl rfl rfl rfl rfl rfl (by kernel_rfl) (by kernel_rfl) ⟨[0, 1, 2, 3, 4, 5, 6], by decide, rfl⟩ (qt_rd (rd_fieldAddr rfl (fa_57_1 _))) ?_
            refine ga_firstY 30 (bm 58 2147483647) rfl rfl rfl rfl rfl rfl (by kernel_rfl) (by kernel_rfl) ⟨[0, 1, 2, 3, 4, 5, 6], by decide, rfl⟩ (qt_rd (rd_load Tryd.underlying3 rfl rfl (ld_slf hS.t (get_flat St.cells 5 (fun _ => rfl) hx (j := 1) (by decide) rfl)))) ?_
            refine ga_firstY 31 (bm 58 4294967295) rfl rfl rfl rfl rfl rfl (by kernel_rfl) (by kernel_rfl) ⟨[0, 1, 2, 3, 4, 5, 6], by decide, rfl⟩ (qt_rd (rd_fieldAddr rfl (fa_44_3 _))) ?_
            refine ga_firstY 32 (bm 58 8589934591) rfl rfl rfl rfl rfl rfl (by kernel_rfl) (by kernel_rfl) ⟨[0, 1, 2, 3, 4, 5, 6], by decide, rfl⟩ (qt_rd (rd_load Tryd.underlying3 rfl rfl (by exact ld_blk 0 rfl rfl))) ?_
            refine ga_firstY 33 (bm 58 17179869183) rfl rfl rfl rfl rfl rfl (by kernel_rfl) (by kernel_rfl) ⟨[0, 1, 2, 3, 4, 5, 6], by decide, rfl⟩ (qt_rd (rd_neq rfl rfl)) (gk_dec (fun h90 => ?_) (fun h90 => ?_))
            · exact absurd hdv h90
            refine ga_first 34 (bm 58 34359738367) rfl rfl rfl rfl (by kernel_rfl) (by kernel_rfl) ⟨[0, 1, 2, 3, 4, 5, 6], by decide, rfl⟩ (qt_rd (rd_pick_f rfl rfl)) ?_
            refine ga_first 35 (bm 58 68719476735) rfl rfl rfl rfl (by kernel_rfl) (by kernel_rfl) ⟨[0, 1, 2, 3, 4, 5, 6], by decide, rfl⟩ (qt_rd (rd_move rfl)) ?_
            refine ga_firstY 36 (bm 58 137438953471) rfl rfl rfl rfl rfl rfl (by kernel_rfl) (by kernel_rfl) ⟨[0, 1, 2, 3, 4, 5, 6], by decide, rfl⟩ (qt_rd (rd_fieldAddr rfl (fa_27_2 _))) ?_
            refine ga_firstY 37 (bm 58 274877906943) rfl rfl rfl rfl rfl rfl (by kernel_rfl) (by kernel_rfl) ⟨[0, 1, 2, 3, 4, 5, 6], by decide, rfl⟩ (qt_rd (rd_load Tryd.underlying24 rfl rfl (by exact ld_blk 6 rfl rfl))) ?_
            refine ga_firstY 38 (bm 58 549755813887) rfl rfl rfl rfl rfl rfl (by kernel_rfl) (by kernel_rfl) ⟨[0, 1, 2, 3, 4, 5, 6], by decide, rfl⟩ (qt_rd (rd_fieldAddr rfl (fa_44_5 _))) ?_
            refine ga_firstY 39 (bm 58 1099511627775) rfl rfl rfl rfl rfl rfl (by kernel_rfl) (by kernel_rfl) ⟨[0, 1, 2, 3, 4, 5, 6], by decide, rfl⟩ (qt_rd (rd_load Tryd.underlying3 rfl rfl (by exact ld_blk 0 rfl rfl))) ?_
            refine ga_firstY 40 (bm 58 2199023255551) rfl rfl rfl rfl rfl rfl (by kernel_rfl) (by kernel_rfl) ⟨[0, 1, 2, 3, 4, 5, 6], by decide, rfl⟩ (qt_rd (rd_indexOld hS.t Tryd.underlying24 ty_57 rfl rfl (by omega) (by omega))) ?_
            refine ga_firstY 41 (bm 58 4398046511103) rfl rfl rfl rfl rfl rfl (by kernel_rfl) (by kernel_rfl) ⟨[0, 1, 2, 3, 4, 5, 6], by decide, rfl⟩ (qt_rd (rd_loadAgg Tryd.underlying57 rfl ty_57 rfl (cs_slN hS.t (flat_drop_get St.cells 5 (fun _ => rfl) hx)) rfl)) ?_
            refine ga_firstY 42 (bm 58 8796093022207) rfl rfl rfl rfl rfl rfl (by kernel_rfl) (by kernel_rfl) ⟨[0, 1, 2, 3, 4, 5, 6], by decide, rfl⟩ (qt_rd (rd_fieldAddr rfl (fa_44_4 _))) ?_
            refine ga_firstY 43 (bm 58 17592186044415) rfl rfl rfl rfl rfl rfl (by kernel_rfl) (by kernel_rfl) ⟨[0, 1, 2, 3, 4, 5, 6], by decide, rfl⟩ (qt_rd (rd_load Tryd.underlying3 rfl rfl (by exact ld_blk 0 rfl rfl))) ?_
            refine ga_firstY 44 (bm 58 35184372088831) rfl rfl rfl rfl rfl rfl (by kernel_rfl) (by kernel_rfl) ⟨[0, 1, 2, 3, 4, 5, 6], by decide, rfl⟩ (qt_rd (rd_move rfl)) ?_
            refine ga_firstY 45 (bm 58 70368744177663) rfl rfl rfl rfl rfl rfl (by kernel_rfl) (by kernel_rfl) ⟨[0, 1, 2, 3, 4, 5, 6], by decide, rfl⟩ (qt_rd (rd_move rfl)) ?_
            refine ga_firstY 46 (bm 58 140737488355327) rfl rfl rfl rfl rfl rfl (by kernel_rfl) (by kernel_rfl) ⟨[0, 1, 2, 3, 4, 5, 6], by decide, rfl⟩ (qt_rd (rd_indexRow 3 rfl Tryd.underlying49 ty_42 rfl rfl (by omega) (by omega))) ?_
            refine ga_firstY 47 (bm 58 281474976710655) rfl rfl rfl rfl rfl rfl (by kernel_rfl) (by kernel_rfl) ⟨[0, 1, 2, 3, 4, 5, 6], by decide, rfl⟩ (qt_rd (rd_loadAgg Tryd.underlying42 rfl ty_42 rfl (cs_row 3 rfl (flat_drop_get plC 2 (fun _ => rfl) hq)) rfl)) ?_
            refine ga_onlyY 48 (bm 58 562949953421311) rfl rfl rfl rfl (by kernel_rfl) (by kernel_rfl) (.inr ⟨[0, 1, 2, 3, 4, 5, 6], by decide, rfl⟩) (op_call rfl (vf := []) (vc := []) rfl rfl Tryd.call23 (fun w1 ho => Plays_ok x u.n (q.1 : Int) (q.2 : Int) (by omega) hpb w1 ((hS.p x hxm).at ho)) ?_)
            rintro _ _ ⟨rfl, rfl⟩
            refine gk_bool (fun h105 => ?_) (fun h105 => ?_)
            · refine ga_firstY 49 (bm 58 1125899906842623) rfl rfl rfl rfl rfl rfl (by kernel_rfl) (by kernel_rfl) ⟨[0, 1, 2, 3, 4, 5, 6], by decide, rfl⟩ (qt_rd (rd_not rfl)) ?_
              refine ga_first 50 (bm 58 2251799813685247) rfl rfl rfl rfl (by kernel_rfl) (by kernel_rfl) ⟨[0, 1, 2, 3, 4, 5, 6], by decide, rfl⟩ (qt_rd (rd_pick_f rfl rfl)) ?_
              refine ga_first 51 (bm 58 4503599627370495) rfl rfl rfl rfl (by kernel_rfl) (by kernel_rfl) ⟨[0, 1, 2, 3, 4, 5, 6], by decide, rfl⟩ (qt_rd (rd_move rfl)) ?_
              refine ga_firstY 52 (bm 58 9007199254740991) rfl rfl rfl rfl rfl rfl (by kernel_rfl) (by kernel_rfl) ⟨[0, 1, 2, 3, 4, 5, 6], by decide, rfl⟩ (qt_rd (rd_loadAgg Tryd.underlying27 rfl ty_27 rfl (by exact cs_blk 6 (off := 0) (k := 4) rfl rfl) rfl)) ?_
              refine ga_firstY 53 (bm 58 18014398509481983) rfl rfl rfl rfl rfl rfl (by kernel_rfl) (by kernel_rfl) ⟨[0, 1, 2, 3, 4, 5, 6], by decide, rfl⟩ (qt_rd (rd_loadAgg Tryd.underlying31 rfl ty_31 rfl (by exact cs_blk 5 (off := 0) (k := 3) rfl rfl) rfl)) ?_
              refine ga_firstY 54 (bm 58 36028797018963967) rfl rfl rfl rfl rfl rfl (by kernel_rfl) (by kernel_rfl) ⟨[0, 1, 2, 3, 4, 5, 6], by decide, rfl⟩ (qt_rd (rd_loadAgg Tryd.underlying44 rfl ty_44 rfl (by exact cs_blk 0 (off := 0) (k := 6) rfl rfl) rfl)) ?_
              refine ga_onlyY 55 (bm 58 72057594037927935) rfl rfl rfl rfl (by kernel_rfl) (by kernel_rfl) (.inr ⟨[0, 1, 2, 3, 4, 5, 6], by decide, rfl⟩) (op_call rfl (vf := []) (vc := []) rfl rfl Tryd.call24 (fun w1 ho => leads_ok s n hle hhe hg u hro.path hro.len (rowA r54) c54 w1 (hS.at ho) (hN.at ho) (ho.rowSl 1 rfl)) ?_)
              rintro _ _ ⟨rfl, rfl⟩
              refine ga_firstY 56 (bm 58 144115188075855871) rfl rfl rfl rfl rfl rfl (by kernel_rfl) (by kernel_rfl) ⟨[0, 1, 2, 3, 4, 5, 6], by decide, rfl⟩ (qt_rd (rd_not rfl)) ?_
              refine ga_first 57 (bm 58 288230376151711743) rfl rfl rfl rfl (by kernel_rfl) (by kernel_rfl) ⟨[0, 1, 2, 3, 4, 5, 6], by decide, rfl⟩ (qt_rd (rd_pick_f rfl rfl)) ?_
              refine ga_end (by kernel_rfl) (.inr ⟨[0, 1, 2, 3, 4, 5, 6], by decide, rfl⟩) ?_
              refine gx_then <| gc_cond_f rfl <| gc_skip <| gx_block <| gx_then <| gc_region <| gl_op <| op_rd rfl (rd_move rfl) <| gl_op (op_rd rfl (by exact rd_addN (b := 1) rfl rfl (by omega)) ?_)
              refine gl_op <| op_rd rfl (rd_assign rfl) <| gl_nil <| gx_then ?_
              exact gx_cut (k + 1) ⟨by omega, by omega⟩ ⟨rfl, rfl, rfl, rfl, rfl, rfl, trivial⟩ ⟨[3, 4, 5, 6], by decide, rfl⟩
            rw [hpl] at h105; cases h105
          rw [decide_eq_true hro.stop] at h64; cases h64
        refine (op_alloc ty_44 rfl rfl (fun b11 => ?_))
        refine ga_only 6 (bm 13 1151) rfl rfl (by kernel_rfl) (by kernel_rfl) (.inr ⟨[1, 2, 3, 4], by decide, rfl⟩) (op_call rfl (vf := []) (vc := []) rfl rfl Tryd.call17 (fun w1 ho => by
          have h9 := whyQ_sp (Why_ok s n.hd hle hhe (q.1 : Int) (q.2 : Int) w1 (hS.at ho) (hH.at ho) (hT.at ho (by decide)))
          rw [HN.hd_val, hwe] at h9
          exact (show Sp _ _ _ _ _ (WhyQ 3 44 u 0) from h9)) ?_)
        rintro _ _ ⟨b54, r54, c54, rfl, rfl⟩
        refine ga_first 7 (bm 13 1279) rfl rfl rfl rfl (by kernel_rfl) (by kernel_rfl) ⟨[3, 4, 5, 6], by decide, rfl⟩ (qt_rd (rd_move rfl)) ?_
        refine ga_first 8 (bm 13 1535) rfl rfl rfl rfl (by kernel_rfl) (by kernel_rfl) ⟨[3, 4, 5, 6], by decide, rfl⟩ (qt_rd (rd_extract rfl rfl)) ?_
        refine ga_first 9 (bm 13 2047) rfl rfl rfl rfl (by kernel_rfl) (by kernel_rfl) ⟨[3, 4, 5, 6], by decide, rfl⟩ (qt_rd (rd_extract rfl rfl)) ?_
        refine ga_only 11 (bm 13 4095) rfl rfl (by kernel_rfl) (by kernel_rfl) (.inr ⟨[3, 4, 5, 6], by decide, rfl⟩) (op_storeAgg 2 ty_44 rfl rfl rfl rfl rfl rfl (by rfl) ?_)
        refine ga_only 12 (bm 13 8191) rfl rfl (by kernel_rfl) (by kernel_rfl) (.inr ⟨[3, 4, 5, 6], by decide, rfl⟩) (op_rd rfl (rd_assign rfl) ?_)
        refine ga_end (by kernel_rfl) (.inl (by kernel_rfl)) ?_
        refine gx_then <| gc_seq <| gc_drawP [0, 1, 2, 3, 4, 5, 6] true 57 rfl <| ga_first 0 (bm 58 1) rfl rfl rfl rfl (by kernel_rfl) (by kernel_rfl) ⟨[0, 1, 2, 3, 4, 5, 6], by decide, rfl⟩ (qt_rd (rd_move rfl)) ?_
        refine ga_first 1 (bm 58 3) rfl rfl rfl rfl (by kernel_rfl) (by kernel_rfl) ⟨[0, 1, 2, 3, 4, 5, 6], by decide, rfl⟩ (qt_rd (rd_neq rfl rfl)) (gk_dec (fun h58 => ?_) (fun h58 => ?_))
        · exact absurd rfl h58
        refine ga_first 2 (bm 58 7) rfl rfl rfl rfl (by kernel_rfl) (by kernel_rfl) ⟨[0, 1, 2, 3, 4, 5, 6], by decide, rfl⟩ (qt_rd (rd_move rfl)) ?_
        refine ga_firstY 3 (bm 58 15) rfl rfl rfl rfl rfl rfl (by kernel_rfl) (by kernel_rfl) ⟨[0, 1, 2, 3, 4, 5, 6], by decide, rfl⟩ (qt_rd (rd_fieldAddr rfl (fa_31_1 _))) ?_
        refine ga_firstY 4 (bm 58 31) rfl rfl rfl rfl rfl rfl (by kernel_rfl) (by kernel_rfl) ⟨[0, 1, 2, 3, 4, 5, 6], by decide, rfl⟩ (qt_rd (rd_load Tryd.underlying29 rfl rfl (by exact ld_blk 5 rfl rfl))) ?_
        refine ga_firstY 5 (bm 58 63) rfl rfl rfl rfl rfl rfl (by kernel_rfl) (by kernel_rfl) ⟨[0, 1, 2, 3, 4, 5, 6], by decide, rfl⟩ (qt_rd (rd_fieldAddr rfl (fa_44_5 _))) ?_
        refine ga_firstY 6 (bm 58 127) rfl rfl rfl rfl rfl rfl (by kernel_rfl) (by kernel_rfl) ⟨[0, 1, 2, 3, 4, 5, 6], by decide, rfl⟩ (qt_rd (rd_load Tryd.underlying3 rfl rfl (by exact ld_blk 2 rfl rfl))) ?_
        refine ga_onlyY 7 (bm 58 255) rfl rfl rfl rfl (by kernel_rfl) (by kernel_rfl) (.inr ⟨[0, 1, 2, 3, 4, 5, 6], by decide, rfl⟩) (op_call rfl (vf := []) (vc := []) rfl rfl Tryd.call22 (fun w1 ho => in_ok n.ss u.i _ _ (by omega) w1 (hN.t.at ho)) ?_)
        rintro _ _ ⟨rfl, rfl⟩
        refine gk_bool (fun h64 => ?_) (fun h64 => ?_)
        · refine ga_firstY 8 (bm 58 511) rfl rfl rfl rfl rfl rfl (by kernel_rfl) (by kernel_rfl) ⟨[0, 1, 2, 3, 4, 5, 6], by decide, rfl⟩ (qt_rd (rd_not rfl)) ?_
          refine ga_first 9 (bm 58 1023) rfl rfl rfl rfl (by kernel_rfl) (by kernel_rfl) ⟨[0, 1, 2, 3, 4, 5, 6], by decide, rfl⟩ (qt_rd (rd_pick_f rfl rfl)) ?_
          refine ga_first 10 (bm 58 2047) rfl rfl rfl rfl (by kernel_rfl) (by kernel_rfl) ⟨[0, 1, 2, 3, 4, 5, 6], by decide, rfl⟩ (qt_rd (rd_move rfl)) ?_
          refine ga_firstY 11 (bm 58 4095) rfl rfl rfl rfl rfl rfl (by kernel_rfl) (by kernel_rfl) ⟨[0, 1, 2, 3, 4, 5, 6], by decide, rfl⟩ (qt_rd (rd_fieldAddr rfl (fa_44_5 _))) ?_
          refine ga_firstY 12 (bm 58 8191) rfl rfl rfl rfl rfl rfl (by kernel_rfl) (by kernel_rfl) ⟨[0, 1, 2, 3, 4, 5, 6], by decide, rfl⟩ (qt_rd (rd_load Tryd.underlying3 rfl rfl (by exact ld_blk 2 rfl rfl))) ?_
          refine ga_firstY 13 (bm 58 16383) rfl rfl rfl rfl rfl rfl (by kernel_rfl) (by kernel_rfl) ⟨[0, 1, 2, 3, 4, 5, 6], by decide, rfl⟩ (qt_rd (rd_lss rfl rfl)) (gk_dec (fun h70 => ?_) (fun h70 => ?_))
          · exfalso; omega
          refine ga_first 14 (bm 58 32767) rfl rfl rfl rfl (by kernel_rfl) (by kernel_rfl) ⟨[0, 1, 2, 3, 4, 5, 6], by decide, rfl⟩ (qt_rd (rd_pick_f rfl rfl)) ?_
          refine ga_first 15 (bm 58 65535) rfl rfl rfl rfl (by kernel_rfl) (by kernel_rfl) ⟨[0, 1, 2, 3, 4, 5, 6], by decide, rfl⟩ (qt_rd (rd_move rfl)) ?_
          refine ga_firstY 16 (bm 58 131071) rfl rfl rfl rfl rfl rfl (by kernel_rfl) (by kernel_rfl) ⟨[0, 1, 2, 3, 4, 5, 6], by decide, rfl⟩ (qt_rd (rd_fieldAddr rfl (fa_44_5 _))) ?_
          refine ga_firstY 17 (bm 58 262143) rfl rfl rfl rfl rfl rfl (by kernel_rfl) (by kernel_rfl) ⟨[0, 1, 2, 3, 4, 5, 6], by decide, rfl⟩ (qt_rd (rd_load Tryd.underlying3 rfl rfl (by exact ld_blk 2 rfl rfl))) ?_
          refine ga_firstY 18 (bm 58 524287) rfl rfl rfl rfl rfl rfl (by kernel_rfl) (by kernel_rfl) ⟨[0, 1, 2, 3, 4, 5, 6], by decide, rfl⟩ (qt_rd (rd_fieldAddr rfl (fa_27_2 _))) ?_
          refine ga_firstY 19 (bm 58 1048575) rfl rfl rfl rfl rfl rfl (by kernel_rfl) (by kernel_rfl) ⟨[0, 1, 2, 3, 4, 5, 6], by decide, rfl⟩ (qt_rd (rd_load Tryd.underlying24 rfl rfl (by exact ld_blk 6 rfl rfl))) ?_
          refine ga_firstY 20 (bm 58 2097151) rfl rfl rfl rfl rfl rfl (by kernel_rfl) (by kernel_rfl) ⟨[0, 1, 2, 3, 4, 5, 6], by decide, rfl⟩ (qt_rd (rd_lenSlice Tryd.underlying24 rfl)) ?_
          refine ga_firstY 21 (bm 58 4194303) rfl rfl rfl rfl rfl rfl (by kernel_rfl) (by kernel_rfl) ⟨[0, 1, 2, 3, 4, 5, 6], by decide, rfl⟩ (qt_rd (rd_geq rfl rfl)) (gk_dec (fun h78 => ?_) (fun h78 => ?_))
          · exfalso; omega
          refine ga_first 22 (bm 58 8388607) rfl rfl rfl rfl (by kernel_rfl) (by kernel_rfl) ⟨[0, 1, 2, 3, 4, 5, 6], by decide, rfl⟩ (qt_rd (rd_pick_f rfl rfl)) ?_
          refine ga_first 23 (bm 58 16777215) rfl rfl rfl rfl (by kernel_rfl) (by kernel_rfl) ⟨[0, 1, 2, 3, 4, 5, 6], by decide, rfl⟩ (qt_rd (rd_move rfl)) ?_
          refine ga_firstY 24 (bm 58 33554431) rfl rfl rfl rfl rfl rfl (by kernel_rfl) (by kernel_rfl) ⟨[0, 1, 2, 3, 4, 5, 6], by decide, rfl⟩ (qt_rd (rd_fieldAddr rfl (fa_27_2 _))) ?_
          refine ga_firstY 25 (bm 58 67108863) rfl rfl rfl rfl rfl rfl (by kernel_rfl) (by kernel_rfl) ⟨[0, 1, 2, 3, 4, 5, 6], by decide, rfl⟩ (qt_rd (rd_load Tryd.underlying24 rfl rfl (by exact ld_blk 6 rfl rfl))) ?_
          refine ga_firstY 26 (bm 58 134217727) rfl rfl rfl rfl rfl rfl (by kernel_rfl) (by kernel_rfl) ⟨[0, 1, 2, 3, 4, 5, 6], by decide, rfl⟩ (qt_rd (rd_fieldAddr rfl (fa_44_5 _))) ?_
          refine ga_firstY 27 (bm 58 268435455) rfl rfl rfl rfl rfl rfl (by kernel_rfl) (by kernel_rfl) ⟨[0, 1, 2, 3, 4, 5, 6], by decide, rfl⟩ (qt_rd (rd_load Tryd.underlying3 rfl rfl (by exact ld_blk 2 rfl rfl))) ?_
          refine ga_firstY 28 (bm 58 536870911) rfl rfl rfl rfl rfl rfl (by kernel_rfl) (by kernel_rfl) ⟨[0, 1, 2, 3, 4, 5, 6], by decide, rfl⟩ (qt_rd (rd_indexOld hS.t Tryd.underlying24 ty_57 rfl rfl (by omega) (by omega))) ?_
          refine ga_firstY 29 (bm 58 1073741823) rfl rfl rfl rfl rfl rfl (by kernel_rfl) (by kernel_rfl) ⟨[0, 1, 2, 3, 4, 5, 6], by decide, rfl⟩ (qt_rd (rd_fieldAddr rfl (fa_57_1 _))) ?_
          refine ga_firstY 30 (bm 58 2147483647) rfl rfl rfl rfl rfl rfl (by kernel_rfl) (by kernel_rfl) ⟨[0, 1, 2, 3, 4, 5, 6], by decide, rfl⟩ (qt_rd (rd_load Tryd.underlying3 rfl rfl (ld_slf hS.t (get_flat St.cells 5 (fun _ => rfl) hx (j := 1) (by decide) rfl)))) ?_
          refine ga_firstY 31 (bm 58 4294967295) rfl rfl rfl rfl rfl rfl (by kernel_rfl) (by kernel_rfl) ⟨[0, 1, 2, 3, 4, 5, 6], by decide, rfl⟩ (qt_rd (rd_fieldAddr rfl (fa_44_3 _))) ?_
          refine ga_firstY 32 (bm 58 8589934591) rfl rfl rfl rfl rfl rfl (by kernel_rfl) (by kernel_rfl) ⟨[0, 1, 2, 3, 4, 5, 6], by decide, rfl⟩ (qt_rd (rd_load Tryd.underlying3 rfl rfl (by exact ld_blk 2 rfl rfl))) ?_
          refine ga_firstY 33 (bm 58 17179869183) rfl rfl rfl rfl rfl rfl (by kernel_rfl) (by kernel_rfl) ⟨[0, 1, 2, 3, 4, 5, 6], by decide, rfl⟩ (qt_rd (rd_neq rfl rfl)) (gk_dec (fun h90 => ?_) (fun h90 => ?_))
          · exact absurd hdv h90
          refine ga_first 34 (bm 58 34359738367) rfl rfl rfl rfl (by kernel_rfl) (by kernel_rfl) ⟨[0, 1, 2, 3, 4, 5, 6], by decide, rfl⟩ (qt_rd (rd_pick_f rfl rfl)) ?_
          refine ga_first 35 (bm 58 68719476735) rfl rfl rfl rfl (by kernel_rfl) (by kernel_rfl) ⟨[0, 1, 2, 3, 4, 5, 6], by decide, rfl⟩ (qt_rd (rd_move rfl)) ?_
          refine ga_firstY 36 (bm 58 137438953471) rfl rfl rfl rfl rfl rfl (by kernel_rfl) (by kernel_rfl) ⟨[0, 1, 2, 3, 4, 5, 6], by decide, rfl⟩ (qt_rd (rd_fieldAddr rfl (fa_27_2 _))) ?_
          refine ga_firstY 37 (bm 58 274877906943) rfl rfl rfl rfl rfl rfl (by kernel_rfl) (by kernel_rfl) ⟨[0, 1, 2, 3, 4, 5, 6], by decide, rfl⟩ (qt_rd (rd_load Tryd.underlying24 rfl rfl (by exact ld_blk 6 rfl rfl))) ?_
          refine ga_firstY 38 (bm 58 549755813887) rfl rfl rfl rfl rfl rfl (by kernel_rfl) (by kernel_rfl) ⟨[0, 1, 2, 3, 4, 5, 6], by decide, rfl⟩ (qt_rd (rd_fieldAddr rfl (fa_44_5 _))) ?_
          refine ga_firstY 39 (bm 58 1099511627775) rfl rfl rfl rfl rfl rfl (by kernel_rfl) (by kernel_rfl) ⟨[0, 1, 2, 3, 4, 5, 6], by decide, rfl⟩ (qt_rd (rd_load Tryd.underlying3 rfl rfl (by exact ld_blk 2 rfl rfl))) ?_
          refine ga_firstY 40 (bm 58 2199023255551) rfl rfl rfl rfl rfl rfl (by kernel_rfl) (by kernel_rfl) ⟨[0, 1, 2, 3, 4, 5, 6], by decide, rfl⟩ (qt_rd (rd_indexOld hS.t Tryd.underlying24 ty_57 rfl rfl (by omega) (by omega))) ?_
          refine ga_firstY 41 (bm 58 4398046511103) rfl rfl rfl rfl rfl rfl (by kernel_rfl) (by kernel_rfl) ⟨[0, 1, 2, 3, 4, 5, 6], by decide, rfl⟩ (qt_rd (rd_loadAgg Tryd.underlying57 rfl ty_57 rfl (cs_slN hS.t (flat_drop_get St.cells 5 (fun _ => rfl) hx)) rfl)) ?_
          refine ga_firstY 42 (bm 58 8796093022207) rfl rfl rfl rfl rfl rfl (by kernel_rfl) (by kernel_rfl) ⟨[0, 1, 2, 3, 4, 5, 6], by decide, rfl⟩ (qt_rd (rd_fieldAddr rfl (fa_44_4 _))) ?_
          refine ga_firstY 43 (bm 58 17592186044415) rfl rfl rfl rfl rfl rfl (by kernel_rfl) (by kernel_rfl) ⟨[0, 1, 2, 3, 4, 5, 6], by decide, rfl⟩ (qt_rd (rd_load Tryd.underlying3 rfl rfl (by exact ld_blk 2 rfl rfl))) ?_
          refine ga_firstY 44 (bm 58 35184372088831) rfl rfl rfl rfl rfl rfl (by kernel_rfl) (by kernel_rfl) ⟨[0, 1, 2, 3, 4, 5, 6], by decide, rfl⟩ (qt_rd (rd_move rfl)) ?_
          refine ga_firstY 45 (bm 58 70368744177663) rfl rfl rfl rfl rfl rfl (by kernel_rfl) (by kernel_rfl) ⟨[0, 1, 2, 3, 4, 5, 6], by decide, rfl⟩ (qt_rd (rd_move rfl)) ?_
          refine ga_firstY 46 (bm 58 140737488355327) rfl rfl rfl rfl rfl rfl (by kernel_rfl) (by kernel_rfl) ⟨[0, 1, 2, 3, 4, 5, 6], by decide, rfl⟩ (qt_rd (rd_indexRow 3 rfl Tryd.underlying49 ty_42 rfl rfl (by omega) (by omega))) ?_
          refine ga_firstY 47 (bm 58 281474976710655) rfl rfl rfl rfl rfl rfl (by kernel_rfl) (by kernel_rfl) ⟨[0, 1, 2, 3, 4, 5, 6], by decide, rfl⟩ (qt_rd (rd_loadAgg Tryd.underlying42 rfl ty_42 rfl (cs_row 3 rfl (flat_drop_get plC 2 (fun _ => rfl) hq)) rfl)) ?_
          refine ga_onlyY 48 (bm 58 562949953421311) rfl rfl rfl rfl (by kernel_rfl) (by kernel_rfl) (.inr ⟨[0, 1, 2, 3, 4, 5, 6], by decide, rfl⟩) (op_call rfl (vf := []) (vc := []) rfl rfl Tryd.call23 (fun w1 ho => Plays_ok x u.n (q.1 : Int) (q.2 : Int) (by omega) hpb w1 ((hS.p x hxm).at ho)) ?_)
          rintro _ _ ⟨rfl, rfl⟩
          refine gk_bool (fun h105 => ?_) (fun h105 => ?_)
          · refine ga_firstY 49 (bm 58 1125899906842623) rfl rfl rfl rfl rfl rfl (by kernel_rfl) (by kernel_rfl) ⟨[0, 1, 2, 3, 4, 5, 6], by decide, rfl⟩ (qt_rd (rd_not rfl)) ?_
            refine ga_first 50 (bm 58 2251799813685247) rfl rfl rfl rfl (by kernel_rfl) (by kernel_rfl) ⟨[0, 1, 2, 3, 4, 5, 6], by decide, rfl⟩ (qt_rd (rd_pick_f rfl rfl)) ?_
            refine ga_first 51 (bm 58 4503599627370495) rfl rfl rfl rfl (by kernel_rfl) (by kernel_rfl) ⟨[0, 1, 2, 3, 4, 5, 6], by decide, rfl⟩ (qt_rd (rd_move rfl)) ?_
            refine ga_firstY 52 (bm 58 9007199254740991) rfl rfl rfl rfl rfl rfl (by kernel_rfl) (by kernel_rfl) ⟨[0, 1, 2, 3, 4, 5, 6], by decide, rfl⟩ (qt_rd (rd_loadAgg Tryd.underlying27 rfl ty_27 rfl (by exact cs_blk 6 (off := 0) (k := 4) rfl rfl) rfl)) ?_
            refine ga_firstY 53 (bm 58 18014398509481983) rfl rfl rfl rfl rfl rfl (by kernel_rfl) (by kernel_rfl) ⟨[0, 1, 2, 3, 4, 5, 6], by decide, rfl⟩ (qt_rd (rd_loadAgg Tryd.underlying31 rfl ty_31 rfl (by exact cs_blk 5 (off := 0) (k := 3) rfl rfl) rfl)) ?_
            refine ga_firstY 54 (bm 58 36028797018963967) rfl rfl rfl rfl rfl rfl (by kernel_rfl) (by kernel_rfl) ⟨[0, 1, 2, 3, 4, 5, 6], by decide, rfl⟩ (qt_rd (rd_loadAgg Tryd.underlying44 rfl ty_44 rfl (by exact cs_blk 2 (off := 0) (k := 6) rfl rfl) rfl)) ?_
            refine ga_onlyY 55 (bm 58 72057594037927935) rfl rfl rfl rfl (by kernel_rfl) (by kernel_rfl) (.inr ⟨[0, 1, 2, 3, 4, 5, 6], by decide, rfl⟩) (op_call rfl (vf := []) (vc := []) rfl rfl Tryd.call24 (fun w1 ho => leads_ok s n hle hhe hg u hro.path hro.len (rowA r54) c54 w1 (hS.at ho) (hN.at ho) (ho.rowSl 0 rfl)) ?_)
            rintro _ _ ⟨rfl, rfl⟩
            refine ga_firstY 56 (bm 58 144115188075855871) rfl rfl rfl rfl rfl rfl (by kernel_rfl) (by kernel_rfl) ⟨[0, 1, 2, 3, 4, 5, 6], by decide, rfl⟩ (qt_rd (rd_not rfl)) ?_
            refine ga_first 57 (bm 58 288230376151711743) rfl rfl rfl rfl (by kernel_rfl) (by kernel_rfl) ⟨[0, 1, 2, 3, 4, 5, 6], by decide, rfl⟩ (qt_rd (rd_pick_f rfl rfl)) ?_
            refine ga_end (by kernel_rfl) (.inr ⟨[0, 1, 2, 3, 4, 5, 6], by decide, rfl⟩) ?_
            refine gx_then <| gc_cond_f rfl <| gc_skip <| gx_block <| gx_then <| gc_region <| gl_op <| op_rd rfl (rd_move rfl) <| gl_op (op_rd rfl (by exact rd_addN (b := 1) rfl rfl (by omega)) ?_)
            refine gl_op <| op_rd rfl (rd_assign rfl) <| gl_nil <| gx_then ?_
            exact gx_cut (k + 1) ⟨by omega, by omega⟩ ⟨rfl, rfl, rfl, rfl, rfl, rfl, trivial⟩ ⟨[3, 4, 5, 6], by decide, rfl⟩
          rw [hpl] at h105; cases h105
        rw [decide_eq_true hro.stop] at h64; cases h64
      refine gl_op <| op_rd rfl (rd_pick_t rfl rfl) <| gl_nil <| gx_then <| gc_cond_f rfl <| gc_exit <| gx_then_exit <| gx_then_exit <| gx_block_exit <| gx_then ?_
      exact gx_cut () trivial ⟨rfl, rfl, rfl, rfl, rfl, trivial⟩ ⟨[0, 1, 2, 3], by decide, rfl⟩
    refine gl_op <| op_rd rfl (rd_move rfl) <| gl_no rfl rfl rfl <| gl_no rfl rfl rfl <| gl_op <| op_rd rfl (rd_pick_f rfl rfl) <| gl_nil <| gx_then <| gc_cond_f rfl <| gc_exit <| gx_then_exit <| gx_then_exit <| gx_block_exit <| gx_then ?_
    exact gx_cut () trivial ⟨rfl, rfl, rfl, rfl, rfl, trivial⟩ ⟨[0, 1, 2, 3], by decide, rfl⟩
  · rintro _ _
    refine gc_seq <| gc_seq <| gc_region <| gl_op <| op_rd rfl (rd_assign rfl) <| gl_nil <| gx_then <| gc_block <| gc_loopF (ι := Nat) [(3, _), (4, _), (5, _), (7, _)] [_, _, _, _] (fun j => j ≤ S.length) (fun j Fr0 => ((9, .bool (silP S r0 p0 j)) :: (13, natV j) :: Fr0)) (fun j Fr0 => Fr0) (fun j => S.length - j) 0 (Nat.zero_le _) ⟨rfl, rfl, rfl, rfl, rfl, rfl, trivial⟩ ⟨[0, 1, 2, 3], by decide, rfl⟩ ?_
    rintro j hj
    refine gc_seq <| gc_seq <| gc_region <| gl_op <| op_rd rfl (rd_move rfl) <| gl_op <| op_rd rfl (rd_move rfl) <| gl_op <| op_rd rfl (rd_lenSlice Tryd.underlying49 rfl) <| gl_op (op_rd rfl (rd_lss rfl rfl) (gk_dec (fun h118 => ?_) (fun h118 => ?_)))
    · obtain ⟨q, hq⟩ := get_some (show j < S.length by omega)
      refine gl_nil <| gx_then <| gc_cond_t rfl <| gc_skip <| gx_then <| gc_seq <| gc_block <| gc_drawP [0, 1, 2, 3] true 9 rfl <| ga_first 0 (bm 10 1) rfl rfl rfl rfl (by kernel_rfl) (by kernel_rfl) ⟨[0, 1, 2, 3], by decide, rfl⟩ (qt_rd (rd_move rfl)) ?_
      refine ga_first 1 (bm 10 3) rfl rfl rfl rfl (by kernel_rfl) (by kernel_rfl) ⟨[0, 1, 2, 3], by decide, rfl⟩ (qt_rd (rd_move rfl)) ?_
      refine gk_bool (fun h122 => ?_) (fun h122 => ?_)
      · refine ga_firstY 2 (bm 10 7) rfl rfl rfl rfl rfl rfl (by kernel_rfl) (by kernel_rfl) ⟨[0, 1, 2, 3], by decide, rfl⟩ (qt_rd (rd_move rfl)) ?_
        refine ga_firstY 3 (bm 10 15) rfl rfl rfl rfl rfl rfl (by kernel_rfl) (by kernel_rfl) ⟨[0, 1, 2, 3], by decide, rfl⟩ (qt_rd (rd_move rfl)) ?_
        refine ga_firstY 4 (bm 10 31) rfl rfl rfl rfl rfl rfl (by kernel_rfl) (by kernel_rfl) ⟨[0, 1, 2, 3], by decide, rfl⟩ (qt_rd (rd_indexRow 0 rfl Tryd.underlying49 ty_42 rfl rfl (by omega) (by omega))) ?_
        refine ga_firstY 5 (bm 10 63) rfl rfl rfl rfl rfl rfl (by kernel_rfl) (by kernel_rfl) ⟨[0, 1, 2, 3], by decide, rfl⟩ (qt_rd (rd_loadAgg Tryd.underlying42 rfl ty_42 rfl (cs_row 0 rfl (flat_drop_get plC 2 (fun _ => rfl) hq)) rfl)) ?_
        refine ga_firstY 6 (bm 10 127) rfl rfl rfl rfl rfl rfl (by kernel_rfl) (by kernel_rfl) ⟨[0, 1, 2, 3], by decide, rfl⟩ (qt_rd (rd_loadAgg Tryd.underlying42 rfl ty_42 rfl (by exact cs_blk 1 (off := 0) (k := 2) rfl rfl) rfl)) ?_
        refine ga_firstY 7 (bm 10 255) rfl rfl rfl rfl rfl rfl (by kernel_rfl) (by kernel_rfl) ⟨[0, 1, 2, 3], by decide, rfl⟩ (qt_rd (rd_neqI2 (a := (q.1 : Int)) (b := (q.2 : Int)) (c := r0) (d := p0) i2_pipe (by kernel_rfl) rfl rfl)) ?_
        refine ga_first 8 (bm 10 511) rfl rfl rfl rfl (by kernel_rfl) (by kernel_rfl) ⟨[0, 1, 2, 3], by decide, rfl⟩ (qt_rd (rd_pick_t rfl rfl)) ?_
        refine ga_first 9 (bm 10 1023) rfl rfl rfl rfl (by kernel_rfl) (by kernel_rfl) ⟨[0, 1, 2, 3], by decide, rfl⟩ (qt_rd (rd_assign rfl)) ?_
        refine ga_end (by kernel_rfl) (.inr ⟨[0, 1, 2, 3], by decide, rfl⟩) ?_
        refine gx_block <| gx_then <| gc_region <| gl_op <| op_rd rfl (rd_move rfl) <| gl_op (op_rd rfl (by exact rd_addN (b := 1) rfl rfl (by omega)) ?_)
        refine gl_op <| op_rd rfl (rd_assign rfl) <| gl_nil <| gx_then ?_
        rw [show (!decide ((q.1 : Int) = r0 ∧ (q.2 : Int) = p0)) = silP S r0 p0 (j + 1) by rw [silP_next hq, h122]; rfl]
        exact gx_cut (j + 1) ⟨by omega, by omega⟩ ⟨rfl, rfl, rfl, rfl, rfl, rfl, trivial⟩ ⟨[0, 1, 2, 3], by decide, rfl⟩
      refine ga_firstN 2 (bm 10 7) rfl rfl rfl rfl rfl rfl (by kernel_rfl) (by kernel_rfl) ⟨[0, 1, 2, 3], by decide, rfl⟩ ?_
      refine ga_firstN 3 (bm 10 15) rfl rfl rfl rfl rfl rfl (by kernel_rfl) (by kernel_rfl) ⟨[0, 1, 2, 3], by decide, rfl⟩ ?_
      refine ga_firstN 4 (bm 10 31) rfl rfl rfl rfl rfl rfl (by kernel_rfl) (by kernel_rfl) ⟨[0, 1, 2, 3], by decide, rfl⟩ ?_
      refine ga_firstN 5 (bm 10 63) rfl rfl rfl rfl rfl rfl (by kernel_rfl) (by kernel_rfl) ⟨[0, 1, 2, 3], by decide, rfl⟩ ?_
      refine ga_firstN 6 (bm 10 127) rfl rfl rfl rfl rfl rfl (by kernel_rfl) (by kernel_rfl) ⟨[0, 1, 2, 3], by decide, rfl⟩ ?_
      refine ga_firstN 7 (bm 10 255) rfl rfl rfl rfl rfl rfl (by kernel_rfl) (by kernel_rfl) ⟨[0, 1, 2, 3], by decide, rfl⟩ ?_
      refine ga_first 8 (bm 10 511) rfl rfl rfl rfl (by kernel_rfl) (by kernel_rfl) ⟨[0, 1, 2, 3], by decide, rfl⟩ (qt_rd (rd_pick_f rfl rfl)) ?_
      refine ga_first 9 (bm 10 1023) rfl rfl rfl rfl (by kernel_rfl) (by kernel_rfl) ⟨[0, 1, 2, 3], by decide, rfl⟩ (qt_rd (rd_assign rfl)) ?_
      refine ga_end (by kernel_rfl) (.inr ⟨[0, 1, 2, 3], by decide, rfl⟩) ?_
      refine gx_block <| gx_then <| gc_region <| gl_op <| op_rd rfl (rd_move rfl) <| gl_op (op_rd rfl (by exact rd_addN (b := 1) rfl rfl (by omega)) ?_)
      refine gl_op <| op_rd rfl (rd_assign rfl) <| gl_nil <| gx_then ?_
      rw [show Value.bool false = .bool (silP S r0 p0 (j + 1)) from congrArg Value.bool (by rw [silP_next hq, h122]; rfl)]
      exact gx_cut (j + 1) ⟨by omega, by omega⟩ ⟨rfl, rfl, rfl, rfl, rfl, rfl, trivial⟩ ⟨[0, 1, 2, 3], by decide, rfl⟩
    have hj9 : j = S.length := by omega
    subst hj9
    have hsil := whyA_sil (r0 := r0) (p0 := p0) hg
    rw [hSS] at hsil
    refine gl_nil <| gx_then <| gc_cond_f rfl <| gc_exit <| gx_then_exit <| gx_then_exit <| gx_block_exit <| gx_then <| gc_seq <| gc_region <| gl_op (op_rd rfl (rd_loadAgg Tryd.underlying27 rfl ty_27 rfl (by exact cs_blk 3 (off := 0) (k := 4) rfl rfl) rfl) ?_)
    refine gl_op (op_rd rfl (rd_loadAgg Tryd.underlying31 rfl ty_31 rfl (by exact cs_blk 2 (off := 0) (k := 3) rfl rfl) rfl) ?_)
    refine gl_op (op_rd rfl (rd_loadAgg Tryd.underlying42 rfl ty_42 rfl (by exact cs_blk 1 (off := 0) (k := 2) rfl rfl) rfl) ?_)
    refine gl_op (op_call rfl (vf := []) (vc := []) rfl rfl Tryd.call17 (fun w1 ho => by
      have h9 := whyQ_sp (Why_ok s n.hd hle hhe r0 p0 w1 (hS.at ho) (hH.at ho) (hT.at ho (by decide)))
      rw [HN.hd_val] at h9
      exact h9) ?_)
    rintro _ _ ⟨b134, r134, c134, rfl, rfl⟩
    refine gl_op <| op_rd rfl (rd_move rfl) <| gl_op <| op_rd rfl (rd_extract rfl rfl) <| gl_op <| op_rd rfl (rd_extract rfl rfl) <| gl_op (op_alloc ty_44 rfl rfl (fun b14 => ?_))
    refine gl_op (op_storeAgg 0 ty_44 rfl rfl rfl rfl rfl rfl (by rfl) ?_)
    refine gl_op <| op_rd rfl (rd_assign rfl) <| gl_nil <| gx_then <| gc_seq ?_
    rcases Bool.eq_false_or_eq_true (silP S r0 p0 S.length) with hs9 | hs9
    all_goals rw [hs9] at hsil
    all_goals simp only [if_true, Bool.false_eq_true, if_false] at hsil
    all_goals rw [hsil, hs9]
    · refine gc_region <| gl_op <| op_rd rfl (rd_move rfl) <| gl_op <| op_rd rfl (rd_eql rfl rfl) <| gl_op <| op_rd rfl (rd_move rfl) <| gl_op <| op_rd rfl (rd_eqlb Tryd.runUnderlying4 rfl rfl) <| gl_op <| op_rd rfl (rd_move rfl) <| gl_yes rfl rfl <| op_rd rfl (rd_move rfl) <| gl_yes rfl rfl <| op_rd rfl (rd_eql rfl rfl) <| gl_yes rfl rfl <| op_rd rfl (rd_move rfl) <| gl_yes rfl rfl <| op_rd rfl (rd_not rfl) <| gl_yes rfl rfl <| op_rd rfl (rd_eqlb Tryd.runUnderlying4 rfl rfl) <| gl_op <| op_rd rfl (rd_pick_t rfl rfl) <| gl_op <| op_rd rfl (rd_move rfl) <| gl_yes rfl rfl (op_call rfl (vf := []) (vc := []) rfl rfl Tryd.call11 (fun w1 ho => shown_ok w1 (hT.at ho (by decide))) ?_)
      rintro _ _ ⟨rfl, rfl⟩
      refine gl_op <| op_rd rfl (rd_pick_t rfl rfl) <| gl_op <| op_rd rfl (rd_assign rfl) <| gl_nil <| gx_then <| gc_ret <| gx_ret1 (.inl rfl) Tryd.results5 rfl [] (by decide) ?_
      exact ⟨rfl, rfl⟩
    refine gc_region <| gl_op <| op_rd rfl (rd_move rfl) <| gl_op <| op_rd rfl (rd_eql rfl rfl) <| gl_op <| op_rd rfl (rd_move rfl) <| gl_op <| op_rd rfl (rd_eqlb Tryd.runUnderlying4 rfl rfl) <| gl_op <| op_rd rfl (rd_move rfl) <| gl_yes rfl rfl <| op_rd rfl (rd_move rfl) <| gl_yes rfl rfl <| op_rd rfl (rd_eql rfl rfl) <| gl_yes rfl rfl <| op_rd rfl (rd_move rfl) <| gl_yes rfl rfl <| op_rd rfl (rd_not rfl) <| gl_yes rfl rfl <| op_rd rfl (rd_eqlb Tryd.runUnderlying4 rfl rfl) <| gl_op <| op_rd rfl (rd_pick_t rfl rfl) <| gl_op <| op_rd rfl (rd_move rfl) <| gl_yes rfl rfl (op_call rfl (vf := []) (vc := []) rfl rfl Tryd.call11 (fun w1 ho => shown_ok w1 (hT.at ho (by decide))) ?_)
    rintro _ _ ⟨rfl, rfl⟩
    refine gl_op <| op_rd rfl (rd_pick_t rfl rfl) <| gl_op <| op_rd rfl (rd_assign rfl) <| gl_nil <| gx_then <| gc_ret <| gx_ret1 (.inl rfl) Tryd.results5 rfl [] (by decide) ?_
    exact ⟨rfl, rfl⟩
end Go.Proofs.YtbjijbbkfgcleaaDoor
