import Derived.Test.YtafmcflggikbfaaW03
import Derived.Test.YtafmcflggikbfaaW01
import Derived.Test.YtafmcflggikbfaaW00
/- A part of the proof: walks of the program. -/
set_option autoImplicit false
set_option linter.unusedSimpArgs false
set_option linter.unusedVariables false
set_option linter.unnecessarySimpa false
namespace Go.Proofs.Ytafmcflggikbfaa
open Go.Gv
open Go.RowKit
open Go.Sn
open Go.Wk
open Sx
namespace Sx
theorem get_atQ {p : Plc} {k : Nat} (h : k < p.at_.length) : (p.at_.map natV)[k]? = some (natV (atN p k)) := get_natL h
theorem get_plQ {p : Plc} {k : Nat} (h : k < p.is.length) : (p.is.map boolV)[k]? = some (.bool (plB p k)) := get_bool h
theorem cnt_yes {l : List Jb} {p : Plc} {b h k : Nat} {z : Jb} (hz : l[k]? = some z) (h1 : plB p k = true) (h2 : z.bench = b ∧ atN p k ≤ h ∧ h < atN p k + z.hours) : cntQ l p b h (k + 1) = cntQ l p b h k + 1 := by
  rw [cntQ_next, if_pos]
  unfold runQ
  rw [bn_at hz, hr_at hz, h1]
  simp only [Bool.true_and, Bool.and_eq_true, decide_eq_true_eq]
  exact ⟨⟨h2.1, h2.2.1⟩, h2.2.2⟩
theorem cnt_no {l : List Jb} {p : Plc} {b h k : Nat} {z : Jb} (hz : l[k]? = some z) (h2 : plB p k = false ∨ ¬ (z.bench = b ∧ atN p k ≤ h ∧ h < atN p k + z.hours)) : cntQ l p b h (k + 1) = cntQ l p b h k := by
  rw [cntQ_next, if_neg, Nat.add_zero]
  unfold runQ
  rw [bn_at hz, hr_at hz]
  simp only [Bool.and_eq_true, decide_eq_true_eq]
  rintro ⟨⟨⟨h3, h4⟩, h5⟩, h6⟩
  rcases h2 with h2 | h2
  · rw [h3] at h2; cases h2
  · exact h2 ⟨h4, h5, h6⟩
theorem sb_at {shop : List Int} {l : List Jb} {i : Nat} {x : Jb} {s : Int} (hx : l[i]? = some x) (hs : shop[x.bench]? = some s) : sb shop (bn l i) = s := by
  unfold sb; rw [bn_at hx]; exact getD_some hs
theorem free_no {shop : List Int} {l : List Jb} {p : Plc} {i t h : Nat} (h1 : t ≤ h) (h2 : h < t + hr l i) (h3 : sb shop (bn l i) ≤ (cntA l p (bn l i) h : Int)) : freeB shop l p i t = false := by
  cases hf : freeB shop l p i t with
  | false => rfl
  | true => have := freeB_iff.1 hf h h1 h2; omega
theorem jump {l : List Jb} {p : Plc} {b h nx : Nat} {s : Int} (hc : (cntA l p b h : Int) < s) (hn : ∀ q, q < l.length → plB p q = true → bn l q = b → h < atN p q → nx ≤ atN p q) : ∀ q, h ≤ q → q < nx → (cntA l p b q : Int) < s := fun q h1 h2 => by
  have := cnt_le_of (l := l) (p := p) (b := b) h1 fun k hk hp hb hle => by
    apply Classical.byContradiction
    intro hno
    have := hn k hk hp hb (by omega)
    omega
  omega
end Sx
open Sx
set_option maxRecDepth 100000 in
set_option maxHeartbeats 1000000 in
theorem free_ok (a : Option Addr) (c : Nat) (l : List Jb) (hj : JOk l) (sa : Option Addr) (sc : Nat) (shop : List Int) (hsl : shop.length ≤ 6) (p : Plc) (hla : p.at_.length = l.length) (hli : p.is.length = l.length) (hpb : ∀ j, atN p j ≤ 100000) (i : Nat) (x : Jb) (hx : l[i]? = some x) (hxs : x.bench < shop.length) (t : Nat) (htb : t ≤ 200000) (qa : Option Addr) (ca : Nat) (qb : Option Addr) (cb : Nat) (w0 : World) (hJ : JnIn a l w0 []) (hS : OldSl w0 [] sa shop.length 1 (shop.map intV)) (hA : OldSl w0 [] qa p.at_.length 1 (p.at_.map natV)) (hB : OldSl w0 [] qb p.is.length 1 (p.is.map boolV)) (bp : Nat) (v4 v5 : Value) (hP : OldSl w0 [] (some ⟨bp, 0, none⟩) 1 6 [.slice sa shop.length sc, .slice a l.length c, .slice qa p.at_.length ca, .slice qb p.is.length cb, v4, v5]) : Sp Try.prog 74 [.pointer (some ⟨bp, 0, none⟩), natV i, natV t] w0 [] (RV (.bool (freeB shop l p i t))) := by
  have hln := hj.n
  have hil := (List.getElem?_eq_some_iff.1 hx).1
  have hxh := job_le hj hx
  obtain ⟨s, hs⟩ := get_some hxs
  have hsb := sb_at hx hs
  have hbn := bn_at hx
  have hhr := hr_at hx
  refine spec_enter Try.func74 rfl Try.ntmps74 rfl (Own.refl _) ?_
  simp only [argEnv]
  refine gc_seq <| gc_region <| gl_op <| op_rd rfl (rd_assign rfl) <| gl_nil <| gx_then <| gc_seq <| gc_region <| gl_op <| op_rd rfl (rd_move rfl) <| gl_op <| op_rd rfl (rd_move rfl) <| gl_op <| op_rd rfl (rd_nilCheck rfl) <| gl_op <| op_rd rfl (rd_fieldAddr rfl (fa_76_1 _)) <| gl_op <| op_rd rfl (rd_load Try.underlying22 rfl rfl (ld_sl hP rfl)) <| gl_op <| op_rd rfl (rd_move rfl) <| gl_op (op_rd rfl (rd_indexOld hJ.t Try.underlying22 ty_48 rfl rfl (by omega) (by omega)) ?_)
  refine gl_op <| op_rd rfl (rd_fieldAddr rfl (fa_48_2 _)) <| gl_op (op_rd rfl (rd_load Try.underlying2 rfl rfl (ld_slf hJ.t (get_flat Jb.cells 4 (fun _ => rfl) hx (j := 2) (by decide) rfl))) ?_)
  refine gl_op (op_rd rfl (by exact rd_addN rfl rfl (by omega)) ?_)
  refine gl_op <| op_rd rfl (rd_assign rfl) <| gl_nil <| gx_then <| gc_seq <| gc_seq <| gc_region <| gl_op <| op_rd rfl (rd_assign rfl) <| gl_nil <| gx_then <| gc_block <| gc_loopF (ι := Nat) [(0, _), (1, _), (2, _), (7, _)] [] (fun k0 => k0 ≤ l.length + 1 ∧ (0 < k0 → (cntA l p x.bench t : Int) < s) ∧ ∀ q, q + 1 < k0 → plB p q = true → t < atN p q → atN p q < t + x.hours → (cntA l p x.bench (atN p q) : Int) < s) (fun k0 Fr0 => ((8, .int .i64 ((k0 : Int) - 1)) :: Fr0)) (fun k0 Fr0 => Fr0) (fun k0 => l.length + 1 - k0) 0 (⟨Nat.zero_le _, fun h => absurd h (Nat.lt_irrefl 0), fun q hq => by omega⟩) ⟨rfl, rfl, rfl, rfl, rfl, trivial⟩ ⟨[], by decide, rfl⟩ ?_
  rintro k0 ⟨hk0, hz0, hall⟩
  refine gc_seq <| gc_seq <| gc_region <| gl_op <| op_rd rfl (rd_move rfl) <| gl_op <| op_rd rfl (rd_move rfl) <| gl_op <| op_rd rfl (rd_nilCheck rfl) <| gl_op <| op_rd rfl (rd_fieldAddr rfl (fa_76_1 _)) <| gl_op <| op_rd rfl (rd_load Try.underlying22 rfl rfl (ld_sl hP rfl)) <| gl_op <| op_rd rfl (rd_lenSlice Try.underlying22 rfl) <| gl_op (op_rd rfl (rd_lss rfl rfl) (gk_dec (fun h29 => ?_) (fun h29 => ?_)))
  · refine gl_nil <| gx_then <| gc_cond_t rfl <| gc_skip <| gx_then <| gc_seq <| gc_block <| gc_seq ?_
    rcases Nat.eq_zero_or_pos k0 with hkz | hkz
    · refine gc_region <| gl_op <| op_rd rfl (rd_move rfl) <| gl_op <| op_rd rfl (rd_assign rfl) <| gl_nil <| gx_then <| gc_seq <| gc_seq <| gc_region <| gl_op <| op_rd rfl (rd_move rfl) <| gl_op (op_rd rfl (rd_geq rfl rfl) (gk_dec (fun h34 => ?_) (fun h34 => ?_)))
      · omega
      refine gl_nil <| gx_then <| gc_cond_f rfl <| gc_skip <| gx_then <| gc_seq <| gc_region <| gl_op <| op_rd rfl (rd_assign rfl) <| gl_nil <| gx_then <| gc_seq <| gc_seq <| gc_region <| gl_op <| op_rd rfl (rd_move rfl) <| gl_op <| op_rd rfl (rd_nilCheck rfl) <| gl_op <| op_rd rfl (rd_fieldAddr rfl (fa_76_1 _)) <| gl_op <| op_rd rfl (rd_load Try.underlying22 rfl rfl (ld_sl hP rfl)) <| gl_op <| op_rd rfl (rd_lenSlice Try.underlying22 rfl) <| gl_op <| op_rd rfl (rd_move rfl) <| gl_nil <| gx_then <| gc_block <| gc_loopF (ι := Nat) [(0, _), (1, _), (2, _), (7, _), (8, _), (9, _), (63, _), (64, _)] [] (fun k => k ≤ l.length) (fun k Fr0 => ((10, natV (cntQ l p x.bench (t) k)) :: (65, natV k) :: Fr0)) (fun k Fr0 => Fr0) (fun k => l.length - k) 0 (Nat.zero_le _) ⟨rfl, rfl, rfl, rfl, rfl, rfl, rfl, rfl, rfl, rfl, trivial⟩ ⟨[], by decide, rfl⟩ ?_
      rintro k hk
      refine gc_seq <| gc_region <| gl_op (op_rd rfl (rd_lss rfl rfl) (gk_dec (fun h66 => ?_) (fun h66 => ?_)))
      · obtain ⟨z, hz⟩ := get_some (show k < l.length by omega)
        have hzh := job_le hj hz
        have hkb := hpb k
        have hcl := cntQ_le l p x.bench t k
        have hzb := bn_at hz
        have hzr := hr_at hz
        refine gl_nil <| gx_then <| gc_seq <| gc_cond_t rfl <| gc_skip <| gx_then <| gc_seq <| gc_block <| gc_seq <| gc_region <| gl_op <| op_rd rfl (rd_move rfl) <| gl_op (op_rd rfl (rd_indexOld hJ.t Try.underlying22 ty_48 rfl rfl (by omega) (by omega)) ?_)
        refine gl_op (op_rd rfl (rd_loadAgg Try.underlying48 rfl ty_48 rfl (cs_slN hJ.t (flat_drop_get Jb.cells 4 (fun _ => rfl) hz)) rfl) ?_)
        refine gl_op (op_alloc ty_48 rfl rfl (fun b12 => ?_))
        refine gl_op <| op_rd rfl (rd_assign rfl) <| gl_op (op_storeAgg 0 ty_48 rfl rfl rfl rfl rfl rfl (by rfl) ?_)
        refine gl_nil <| gx_then <| gc_seq <| gc_drawP [0] true 44 rfl <| ga_first 0 (bm 45 1) rfl rfl rfl rfl (by kernel_rfl) (by kernel_rfl) ⟨[0], by decide, rfl⟩ (qt_rd (rd_move rfl)) ?_
        refine ga_first 1 (bm 45 3) rfl rfl rfl rfl (by kernel_rfl) (by kernel_rfl) ⟨[0], by decide, rfl⟩ (qt_rd (rd_nilCheck rfl)) ?_
        refine ga_first 2 (bm 45 7) rfl rfl rfl rfl (by kernel_rfl) (by kernel_rfl) ⟨[0], by decide, rfl⟩ (qt_rd (rd_fieldAddr rfl (fa_76_3 _))) ?_
        refine ga_first 3 (bm 45 15) rfl rfl rfl rfl (by kernel_rfl) (by kernel_rfl) ⟨[0], by decide, rfl⟩ (qt_rd (rd_load Try.underlying74 rfl rfl (ld_sl hP rfl))) ?_
        refine ga_first 4 (bm 45 31) rfl rfl rfl rfl (by kernel_rfl) (by kernel_rfl) ⟨[0], by decide, rfl⟩ (qt_rd (rd_move rfl)) ?_
        refine ga_first 5 (bm 45 63) rfl rfl rfl rfl (by kernel_rfl) (by kernel_rfl) ⟨[0], by decide, rfl⟩ (qt_rd (rd_indexOld1 hB Try.underlying74 ty_4 rfl rfl (by omega) (by omega))) ?_
        refine ga_first 6 (bm 45 127) rfl rfl rfl rfl (by kernel_rfl) (by kernel_rfl) ⟨[0], by decide, rfl⟩ (qt_rd (rd_load Try.underlying4 rfl rfl (ld_slN hB (get_plQ (k := k) (by omega))))) ?_
        refine gk_bool (fun h76 => ?_) (fun h76 => ?_)
        · refine ga_first 7 (bm 45 255) rfl rfl rfl rfl (by kernel_rfl) (by kernel_rfl) ⟨[0], by decide, rfl⟩ (qt_rd (rd_move rfl)) ?_
          refine ga_firstY 8 (bm 45 511) rfl rfl rfl rfl rfl rfl (by kernel_rfl) (by kernel_rfl) ⟨[0], by decide, rfl⟩ (qt_rd (rd_fieldAddr rfl (fa_48_1 _))) ?_
          refine ga_firstY 9 (bm 45 1023) rfl rfl rfl rfl rfl rfl (by kernel_rfl) (by kernel_rfl) ⟨[0], by decide, rfl⟩ (qt_rd (rd_load Try.underlying3 rfl rfl (by exact ld_blk 0 rfl rfl))) ?_
          refine ga_firstY 10 (bm 45 2047) rfl rfl rfl rfl rfl rfl (by kernel_rfl) (by kernel_rfl) ⟨[0], by decide, rfl⟩ (qt_rd (rd_move rfl)) ?_
          refine ga_firstY 11 (bm 45 4095) rfl rfl rfl rfl rfl rfl (by kernel_rfl) (by kernel_rfl) ⟨[0], by decide, rfl⟩ (qt_rd (rd_nilCheck rfl)) ?_
          refine ga_firstY 12 (bm 45 8191) rfl rfl rfl rfl rfl rfl (by kernel_rfl) (by kernel_rfl) ⟨[0], by decide, rfl⟩ (qt_rd (rd_fieldAddr rfl (fa_76_1 _))) ?_
          refine ga_firstY 13 (bm 45 16383) rfl rfl rfl rfl rfl rfl (by kernel_rfl) (by kernel_rfl) ⟨[0], by decide, rfl⟩ (qt_rd (rd_load Try.underlying22 rfl rfl (ld_sl hP rfl))) ?_
          refine ga_firstY 14 (bm 45 32767) rfl rfl rfl rfl rfl rfl (by kernel_rfl) (by kernel_rfl) ⟨[0], by decide, rfl⟩ (qt_rd (rd_move rfl)) ?_
          refine ga_firstY 15 (bm 45 65535) rfl rfl rfl rfl rfl rfl (by kernel_rfl) (by kernel_rfl) ⟨[0], by decide, rfl⟩ (qt_rd (rd_indexOld hJ.t Try.underlying22 ty_48 rfl rfl (by omega) (by omega))) ?_
          refine ga_firstY 16 (bm 45 131071) rfl rfl rfl rfl rfl rfl (by kernel_rfl) (by kernel_rfl) ⟨[0], by decide, rfl⟩ (qt_rd (rd_fieldAddr rfl (fa_48_1 _))) ?_
          refine ga_firstY 17 (bm 45 262143) rfl rfl rfl rfl rfl rfl (by kernel_rfl) (by kernel_rfl) ⟨[0], by decide, rfl⟩ (qt_rd (rd_load Try.underlying3 rfl rfl (ld_slf hJ.t (get_flat Jb.cells 4 (fun _ => rfl) hx (j := 1) (by decide) rfl)))) ?_
          refine ga_firstY 18 (bm 45 524287) rfl rfl rfl rfl rfl rfl (by kernel_rfl) (by kernel_rfl) ⟨[0], by decide, rfl⟩ (qt_rd (rd_eql rfl rfl)) (gk_dec (fun h88 => ?_) (fun h88 => ?_))
          · refine ga_first 19 (bm 45 1048575) rfl rfl rfl rfl (by kernel_rfl) (by kernel_rfl) ⟨[0], by decide, rfl⟩ (qt_rd (rd_pick_t rfl rfl)) ?_
            refine ga_first 20 (bm 45 2097151) rfl rfl rfl rfl (by kernel_rfl) (by kernel_rfl) ⟨[0], by decide, rfl⟩ (qt_rd (rd_move rfl)) ?_
            refine ga_firstY 21 (bm 45 4194303) rfl rfl rfl rfl rfl rfl (by kernel_rfl) (by kernel_rfl) ⟨[0], by decide, rfl⟩ (qt_rd (rd_move rfl)) ?_
            refine ga_firstY 22 (bm 45 8388607) rfl rfl rfl rfl rfl rfl (by kernel_rfl) (by kernel_rfl) ⟨[0], by decide, rfl⟩ (qt_rd (rd_nilCheck rfl)) ?_
            refine ga_firstY 23 (bm 45 16777215) rfl rfl rfl rfl rfl rfl (by kernel_rfl) (by kernel_rfl) ⟨[0], by decide, rfl⟩ (qt_rd (rd_fieldAddr rfl (fa_76_2 _))) ?_
            refine ga_firstY 24 (bm 45 33554431) rfl rfl rfl rfl rfl rfl (by kernel_rfl) (by kernel_rfl) ⟨[0], by decide, rfl⟩ (qt_rd (rd_load Try.underlying25 rfl rfl (ld_sl hP rfl))) ?_
            refine ga_firstY 25 (bm 45 67108863) rfl rfl rfl rfl rfl rfl (by kernel_rfl) (by kernel_rfl) ⟨[0], by decide, rfl⟩ (qt_rd (rd_move rfl)) ?_
            refine ga_firstY 26 (bm 45 134217727) rfl rfl rfl rfl rfl rfl (by kernel_rfl) (by kernel_rfl) ⟨[0], by decide, rfl⟩ (qt_rd (rd_indexOld1 hA Try.underlying25 ty_2 rfl rfl (by omega) (by omega))) ?_
            refine ga_firstY 27 (bm 45 268435455) rfl rfl rfl rfl rfl rfl (by kernel_rfl) (by kernel_rfl) ⟨[0], by decide, rfl⟩ (qt_rd (rd_load Try.underlying2 rfl rfl (ld_slN hA (get_atQ (k := k) (by omega))))) ?_
            refine ga_firstY 28 (bm 45 536870911) rfl rfl rfl rfl rfl rfl (by kernel_rfl) (by kernel_rfl) ⟨[0], by decide, rfl⟩ (qt_rd (rd_move rfl)) ?_
            refine ga_firstY 29 (bm 45 1073741823) rfl rfl rfl rfl rfl rfl (by kernel_rfl) (by kernel_rfl) ⟨[0], by decide, rfl⟩ (qt_rd (rd_leq rfl rfl)) (gk_dec (fun h99 => ?_) (fun h99 => ?_))
            · refine ga_first 30 (bm 45 2147483647) rfl rfl rfl rfl (by kernel_rfl) (by kernel_rfl) ⟨[0], by decide, rfl⟩ (qt_rd (rd_pick_t rfl rfl)) ?_
              refine ga_first 31 (bm 45 4294967295) rfl rfl rfl rfl (by kernel_rfl) (by kernel_rfl) ⟨[0], by decide, rfl⟩ (qt_rd (rd_move rfl)) ?_
              refine ga_firstY 32 (bm 45 8589934591) rfl rfl rfl rfl rfl rfl (by kernel_rfl) (by kernel_rfl) ⟨[0], by decide, rfl⟩ (qt_rd (rd_move rfl)) ?_
              refine ga_firstY 33 (bm 45 17179869183) rfl rfl rfl rfl rfl rfl (by kernel_rfl) (by kernel_rfl) ⟨[0], by decide, rfl⟩ (qt_rd (rd_move rfl)) ?_
              refine ga_firstY 34 (bm 45 34359738367) rfl rfl rfl rfl rfl rfl (by kernel_rfl) (by kernel_rfl) ⟨[0], by decide, rfl⟩ (qt_rd (rd_nilCheck rfl)) ?_
              refine ga_firstY 35 (bm 45 68719476735) rfl rfl rfl rfl rfl rfl (by kernel_rfl) (by kernel_rfl) ⟨[0], by decide, rfl⟩ (qt_rd (rd_fieldAddr rfl (fa_76_2 _))) ?_
              refine ga_firstY 36 (bm 45 137438953471) rfl rfl rfl rfl rfl rfl (by kernel_rfl) (by kernel_rfl) ⟨[0], by decide, rfl⟩ (qt_rd (rd_load Try.underlying25 rfl rfl (ld_sl hP rfl))) ?_
              refine ga_firstY 37 (bm 45 274877906943) rfl rfl rfl rfl rfl rfl (by kernel_rfl) (by kernel_rfl) ⟨[0], by decide, rfl⟩ (qt_rd (rd_move rfl)) ?_
              refine ga_firstY 38 (bm 45 549755813887) rfl rfl rfl rfl rfl rfl (by kernel_rfl) (by kernel_rfl) ⟨[0], by decide, rfl⟩ (qt_rd (rd_indexOld1 hA Try.underlying25 ty_2 rfl rfl (by omega) (by omega))) ?_
              refine ga_firstY 39 (bm 45 1099511627775) rfl rfl rfl rfl rfl rfl (by kernel_rfl) (by kernel_rfl) ⟨[0], by decide, rfl⟩ (qt_rd (rd_load Try.underlying2 rfl rfl (ld_slN hA (get_atQ (k := k) (by omega))))) ?_
              refine ga_firstY 40 (bm 45 2199023255551) rfl rfl rfl rfl rfl rfl (by kernel_rfl) (by kernel_rfl) ⟨[0], by decide, rfl⟩ (qt_rd (rd_fieldAddr rfl (fa_48_2 _))) ?_
              refine ga_firstY 41 (bm 45 4398046511103) rfl rfl rfl rfl rfl rfl (by kernel_rfl) (by kernel_rfl) ⟨[0], by decide, rfl⟩ (qt_rd (rd_load Try.underlying2 rfl rfl (by exact ld_blk 0 rfl rfl))) ?_
              refine ga_firstY 42 (bm 45 8796093022207) rfl rfl rfl rfl rfl rfl (by kernel_rfl) (by kernel_rfl) ⟨[0], by decide, rfl⟩ (qt_rd (by exact rd_addN rfl rfl (by omega))) ?_
              refine ga_firstY 43 (bm 45 17592186044415) rfl rfl rfl rfl rfl rfl (by kernel_rfl) (by kernel_rfl) ⟨[0], by decide, rfl⟩ (qt_rd (rd_lss rfl rfl)) (gk_dec (fun h113 => ?_) (fun h113 => ?_))
              · refine ga_first 44 (bm 45 35184372088831) rfl rfl rfl rfl (by kernel_rfl) (by kernel_rfl) ⟨[0], by decide, rfl⟩ (qt_rd (rd_pick_t rfl rfl)) ?_
                refine ga_end (by kernel_rfl) (.inr ⟨[0], by decide, rfl⟩) ?_
                refine gx_then <| gc_cond_t rfl <| gc_region <| gl_op <| op_rd rfl (rd_move rfl) <| gl_op (op_rd rfl (by exact rd_addN (b := 1) rfl rfl (by omega)) ?_)
                refine gl_op <| op_rd rfl (rd_assign rfl) <| gl_nil <| gx_block <| gx_then <| gc_region <| gl_op (op_rd rfl (by exact rd_addN (b := 1) rfl rfl (by omega)) ?_)
                refine gl_op <| op_rd rfl (rd_move rfl) <| gl_nil <| gx_then ?_
                rw [← cnt_yes hz h76 (by omega)]
                exact gx_cut (k + 1) ⟨by omega, by omega⟩ ⟨rfl, rfl, rfl, rfl, rfl, rfl, rfl, rfl, rfl, rfl, trivial⟩ ⟨[], by decide, rfl⟩
              refine ga_first 44 (bm 45 35184372088831) rfl rfl rfl rfl (by kernel_rfl) (by kernel_rfl) ⟨[0], by decide, rfl⟩ (qt_rd (rd_pick_t rfl rfl)) ?_
              refine ga_end (by kernel_rfl) (.inr ⟨[0], by decide, rfl⟩) ?_
              refine gx_then <| gc_cond_f rfl <| gc_skip <| gx_block <| gx_then <| gc_region <| gl_op (op_rd rfl (by exact rd_addN (b := 1) rfl rfl (by omega)) ?_)
              refine gl_op <| op_rd rfl (rd_move rfl) <| gl_nil <| gx_then ?_
              rw [← cnt_no hz (.inr (by omega))]
              exact gx_cut (k + 1) ⟨by omega, by omega⟩ ⟨rfl, rfl, rfl, rfl, rfl, rfl, rfl, rfl, rfl, rfl, trivial⟩ ⟨[], by decide, rfl⟩
            refine ga_first 30 (bm 45 2147483647) rfl rfl rfl rfl (by kernel_rfl) (by kernel_rfl) ⟨[0], by decide, rfl⟩ (qt_rd (rd_pick_t rfl rfl)) ?_
            refine ga_first 31 (bm 45 4294967295) rfl rfl rfl rfl (by kernel_rfl) (by kernel_rfl) ⟨[0], by decide, rfl⟩ (qt_rd (rd_move rfl)) ?_
            refine ga_firstN 32 (bm 45 8589934591) rfl rfl rfl rfl rfl rfl (by kernel_rfl) (by kernel_rfl) ⟨[0], by decide, rfl⟩ ?_
            refine ga_firstN 33 (bm 45 17179869183) rfl rfl rfl rfl rfl rfl (by kernel_rfl) (by kernel_rfl) ⟨[0], by decide, rfl⟩ ?_
            refine ga_firstN 34 (bm 45 34359738367) rfl rfl rfl rfl rfl rfl (by kernel_rfl) (by kernel_rfl) ⟨[0], by decide, rfl⟩ ?_
            refine ga_firstN 35 (bm 45 68719476735) rfl rfl rfl rfl rfl rfl (by kernel_rfl) (by kernel_rfl) ⟨[0], by decide, rfl⟩ ?_
            refine ga_firstN 36 (bm 45 137438953471) rfl rfl rfl rfl rfl rfl (by kernel_rfl) (by kernel_rfl) ⟨[0], by decide, rfl⟩ ?_
            refine ga_firstN 37 (bm 45 274877906943) rfl rfl rfl rfl rfl rfl (by kernel_rfl) (by kernel_rfl) ⟨[0], by decide, rfl⟩ ?_
            refine ga_firstN 38 (bm 45 549755813887) rfl rfl rfl rfl rfl rfl (by kernel_rfl) (by kernel_rfl) ⟨[0], by decide, rfl⟩ ?_
            refine ga_firstN 39 (bm 45 1099511627775) rfl rfl rfl rfl rfl rfl (by kernel_rfl) (by kernel_rfl) ⟨[0], by decide, rfl⟩ ?_
            refine ga_firstN 40 (bm 45 2199023255551) rfl rfl rfl rfl rfl rfl (by kernel_rfl) (by kernel_rfl) ⟨[0], by decide, rfl⟩ ?_
            refine ga_firstN 41 (bm 45 4398046511103) rfl rfl rfl rfl rfl rfl (by kernel_rfl) (by kernel_rfl) ⟨[0], by decide, rfl⟩ ?_
            refine ga_firstN 42 (bm 45 8796093022207) rfl rfl rfl rfl rfl rfl (by kernel_rfl) (by kernel_rfl) ⟨[0], by decide, rfl⟩ ?_
            refine ga_firstN 43 (bm 45 17592186044415) rfl rfl rfl rfl rfl rfl (by kernel_rfl) (by kernel_rfl) ⟨[0], by decide, rfl⟩ ?_
            refine ga_first 44 (bm 45 35184372088831) rfl rfl rfl rfl (by kernel_rfl) (by kernel_rfl) ⟨[0], by decide, rfl⟩ (qt_rd (rd_pick_f rfl rfl)) ?_
            refine ga_end (by kernel_rfl) (.inr ⟨[0], by decide, rfl⟩) ?_
            refine gx_then <| gc_cond_f rfl <| gc_skip <| gx_block <| gx_then <| gc_region <| gl_op (op_rd rfl (by exact rd_addN (b := 1) rfl rfl (by omega)) ?_)
            refine gl_op <| op_rd rfl (rd_move rfl) <| gl_nil <| gx_then ?_
            rw [← cnt_no hz (.inr (by omega))]
            exact gx_cut (k + 1) ⟨by omega, by omega⟩ ⟨rfl, rfl, rfl, rfl, rfl, rfl, rfl, rfl, rfl, rfl, trivial⟩ ⟨[], by decide, rfl⟩
          refine ga_first 19 (bm 45 1048575) rfl rfl rfl rfl (by kernel_rfl) (by kernel_rfl) ⟨[0], by decide, rfl⟩ (qt_rd (rd_pick_t rfl rfl)) ?_
          refine ga_first 20 (bm 45 2097151) rfl rfl rfl rfl (by kernel_rfl) (by kernel_rfl) ⟨[0], by decide, rfl⟩ (qt_rd (rd_move rfl)) ?_
          refine ga_firstN 21 (bm 45 4194303) rfl rfl rfl rfl rfl rfl (by kernel_rfl) (by kernel_rfl) ⟨[0], by decide, rfl⟩ ?_
          refine ga_firstN 22 (bm 45 8388607) rfl rfl rfl rfl rfl rfl (by kernel_rfl) (by kernel_rfl) ⟨[0], by decide, rfl⟩ ?_
          refine ga_firstN 23 (bm 45 16777215) rfl rfl rfl rfl rfl rfl (by kernel_rfl) (by kernel_rfl) ⟨[0], by decide, rfl⟩ ?_
          refine ga_firstN 24 (bm 45 33554431) rfl rfl rfl rfl rfl rfl (by kernel_rfl) (by kernel_rfl) ⟨[0], by decide, rfl⟩ ?_
          refine ga_firstN 25 (bm 45 67108863) rfl rfl rfl rfl rfl rfl (by kernel_rfl) (by kernel_rfl) ⟨[0], by decide, rfl⟩ ?_
          refine ga_firstN 26 (bm 45 134217727) rfl rfl rfl rfl rfl rfl (by kernel_rfl) (by kernel_rfl) ⟨[0], by decide, rfl⟩ ?_
          refine ga_firstN 27 (bm 45 268435455) rfl rfl rfl rfl rfl rfl (by kernel_rfl) (by kernel_rfl) ⟨[0], by decide, rfl⟩ ?_
          refine ga_firstN 28 (bm 45 536870911) rfl rfl rfl rfl rfl rfl (by kernel_rfl) (by kernel_rfl) ⟨[0], by decide, rfl⟩ ?_
          refine ga_firstN 29 (bm 45 1073741823) rfl rfl rfl rfl rfl rfl (by kernel_rfl) (by kernel_rfl) ⟨[0], by decide, rfl⟩ ?_
          refine ga_first 30 (bm 45 2147483647) rfl rfl rfl rfl (by kernel_rfl) (by kernel_rfl) ⟨[0], by decide, rfl⟩ (qt_rd (rd_pick_f rfl rfl)) ?_
          refine ga_first 31 (bm 45 4294967295) rfl rfl rfl rfl (by kernel_rfl) (by kernel_rfl) ⟨[0], by decide, rfl⟩ (qt_rd (rd_move rfl)) ?_
          refine ga_firstN 32 (bm 45 8589934591) rfl rfl rfl rfl rfl rfl (by kernel_rfl) (by kernel_rfl) ⟨[0], by decide, rfl⟩ ?_
          refine ga_firstN 33 (bm 45 17179869183) rfl rfl rfl rfl rfl rfl (by kernel_rfl) (by kernel_rfl) ⟨[0], by decide, rfl⟩ ?_
          refine ga_firstN 34 (bm 45 34359738367) rfl rfl rfl rfl rfl rfl (by kernel_rfl) (by kernel_rfl) ⟨[0], by decide, rfl⟩ ?_
          refine ga_firstN 35 (bm 45 68719476735) rfl rfl rfl rfl rfl rfl (by kernel_rfl) (by kernel_rfl) ⟨[0], by decide, rfl⟩ ?_
          refine ga_firstN 36 (bm 45 137438953471) rfl rfl rfl rfl rfl rfl (by kernel_rfl) (by kernel_rfl) ⟨[0], by decide, rfl⟩ ?_
          refine ga_firstN 37 (bm 45 274877906943) rfl rfl rfl rfl rfl rfl (by kernel_rfl) (by kernel_rfl) ⟨[0], by decide, rfl⟩ ?_
          refine ga_firstN 38 (bm 45 549755813887) rfl rfl rfl rfl rfl rfl (by kernel_rfl) (by kernel_rfl) ⟨[0], by decide, rfl⟩ ?_
          refine ga_firstN 39 (bm 45 1099511627775) rfl rfl rfl rfl rfl rfl (by kernel_rfl) (by kernel_rfl) ⟨[0], by decide, rfl⟩ ?_
          refine ga_firstN 40 (bm 45 2199023255551) rfl rfl rfl rfl rfl rfl (by kernel_rfl) (by kernel_rfl) ⟨[0], by decide, rfl⟩ ?_
          refine ga_firstN 41 (bm 45 4398046511103) rfl rfl rfl rfl rfl rfl (by kernel_rfl) (by kernel_rfl) ⟨[0], by decide, rfl⟩ ?_
          refine ga_firstN 42 (bm 45 8796093022207) rfl rfl rfl rfl rfl rfl (by kernel_rfl) (by kernel_rfl) ⟨[0], by decide, rfl⟩ ?_
          refine ga_firstN 43 (bm 45 17592186044415) rfl rfl rfl rfl rfl rfl (by kernel_rfl) (by kernel_rfl) ⟨[0], by decide, rfl⟩ ?_
          refine ga_first 44 (bm 45 35184372088831) rfl rfl rfl rfl (by kernel_rfl) (by kernel_rfl) ⟨[0], by decide, rfl⟩ (qt_rd (rd_pick_f rfl rfl)) ?_
          refine ga_end (by kernel_rfl) (.inr ⟨[0], by decide, rfl⟩) ?_
          refine gx_then <| gc_cond_f rfl <| gc_skip <| gx_block <| gx_then <| gc_region <| gl_op (op_rd rfl (by exact rd_addN (b := 1) rfl rfl (by omega)) ?_)
          refine gl_op <| op_rd rfl (rd_move rfl) <| gl_nil <| gx_then ?_
          rw [← cnt_no hz (.inr (by omega))]
          exact gx_cut (k + 1) ⟨by omega, by omega⟩ ⟨rfl, rfl, rfl, rfl, rfl, rfl, rfl, rfl, rfl, rfl, trivial⟩ ⟨[], by decide, rfl⟩
        refine ga_first 7 (bm 45 255) rfl rfl rfl rfl (by kernel_rfl) (by kernel_rfl) ⟨[0], by decide, rfl⟩ (qt_rd (rd_move rfl)) ?_
        refine ga_firstN 8 (bm 45 511) rfl rfl rfl rfl rfl rfl (by kernel_rfl) (by kernel_rfl) ⟨[0], by decide, rfl⟩ ?_
        refine ga_firstN 9 (bm 45 1023) rfl rfl rfl rfl rfl rfl (by kernel_rfl) (by kernel_rfl) ⟨[0], by decide, rfl⟩ ?_
        refine ga_firstN 10 (bm 45 2047) rfl rfl rfl rfl rfl rfl (by kernel_rfl) (by kernel_rfl) ⟨[0], by decide, rfl⟩ ?_
        refine ga_firstN 11 (bm 45 4095) rfl rfl rfl rfl rfl rfl (by kernel_rfl) (by kernel_rfl) ⟨[0], by decide, rfl⟩ ?_
        refine ga_firstN 12 (bm 45 8191) rfl rfl rfl rfl rfl rfl (by kernel_rfl) (by kernel_rfl) ⟨[0], by decide, rfl⟩ ?_
        refine ga_firstN 13 (bm 45 16383) rfl rfl rfl rfl rfl rfl (by kernel_rfl) (by kernel_rfl) ⟨[0], by decide, rfl⟩ ?_
        refine ga_firstN 14 (bm 45 32767) rfl rfl rfl rfl rfl rfl (by kernel_rfl) (by kernel_rfl) ⟨[0], by decide, rfl⟩ ?_
        refine ga_firstN 15 (bm 45 65535) rfl rfl rfl rfl rfl rfl (by kernel_rfl) (by kernel_rfl) ⟨[0], by decide, rfl⟩ ?_
        refine ga_firstN 16 (bm 45 131071) rfl rfl rfl rfl rfl rfl (by kernel_rfl) (by kernel_rfl) ⟨[0], by decide, rfl⟩ ?_
        refine ga_firstN 17 (bm 45 262143) rfl rfl rfl rfl rfl rfl (by kernel_rfl) (by kernel_rfl) ⟨[0], by decide, rfl⟩ ?_
        refine ga_firstN 18 (bm 45 524287) rfl rfl rfl rfl rfl rfl (by kernel_rfl) (by kernel_rfl) ⟨[0], by decide, rfl⟩ ?_
        refine ga_first 19 (bm 45 1048575) rfl rfl rfl rfl (by kernel_rfl) (by kernel_rfl) ⟨[0], by decide, rfl⟩ (qt_rd (rd_pick_f rfl rfl)) ?_
        refine ga_first 20 (bm 45 2097151) rfl rfl rfl rfl (by kernel_rfl) (by kernel_rfl) ⟨[0], by decide, rfl⟩ (qt_rd (rd_move rfl)) ?_
        refine ga_firstN 21 (bm 45 4194303) rfl rfl rfl rfl rfl rfl (by kernel_rfl) (by kernel_rfl) ⟨[0], by decide, rfl⟩ ?_
        refine ga_firstN 22 (bm 45 8388607) rfl rfl rfl rfl rfl rfl (by kernel_rfl) (by kernel_rfl) ⟨[0], by decide, rfl⟩ ?_
        refine ga_firstN 23 (bm 45 16777215) rfl rfl rfl rfl rfl rfl (by kernel_rfl) (by kernel_rfl) ⟨[0], by decide, rfl⟩ ?_
        refine ga_firstN 24 (bm 45 33554431) rfl rfl rfl rfl rfl rfl (by kernel_rfl) (by kernel_rfl) ⟨[0], by decide, rfl⟩ ?_
        refine ga_firstN 25 (bm 45 67108863) rfl rfl rfl rfl rfl rfl (by kernel_rfl) (by kernel_rfl) ⟨[0], by decide, rfl⟩ ?_
        refine ga_firstN 26 (bm 45 134217727) rfl rfl rfl rfl rfl rfl (by kernel_rfl) (by kernel_rfl) ⟨[0], by decide, rfl⟩ ?_
        refine ga_firstN 27 (bm 45 268435455) rfl rfl rfl rfl rfl rfl (by kernel_rfl) (by kernel_rfl) ⟨[0], by decide, rfl⟩ ?_
        refine ga_firstN 28 (bm 45 536870911) rfl rfl rfl rfl rfl rfl (by kernel_rfl) (by kernel_rfl) ⟨[0], by decide, rfl⟩ ?_
        refine ga_firstN 29 (bm 45 1073741823) rfl rfl rfl rfl rfl rfl (by kernel_rfl) (by kernel_rfl) ⟨[0], by decide, rfl⟩ ?_
        refine ga_first 30 (bm 45 2147483647) rfl rfl rfl rfl (by kernel_rfl) (by kernel_rfl) ⟨[0], by decide, rfl⟩ (qt_rd (rd_pick_f rfl rfl)) ?_
        refine ga_first 31 (bm 45 4294967295) rfl rfl rfl rfl (by kernel_rfl) (by kernel_rfl) ⟨[0], by decide, rfl⟩ (qt_rd (rd_move rfl)) ?_
        refine ga_firstN 32 (bm 45 8589934591) rfl rfl rfl rfl rfl rfl (by kernel_rfl) (by kernel_rfl) ⟨[0], by decide, rfl⟩ ?_
        refine ga_firstN 33 (bm 45 17179869183) rfl rfl rfl rfl rfl rfl (by kernel_rfl) (by kernel_rfl) ⟨[0], by decide, rfl⟩ ?_
        refine ga_firstN 34 (bm 45 34359738367) rfl rfl rfl rfl rfl rfl (by kernel_rfl) (by kernel_rfl) ⟨[0], by decide, rfl⟩ ?_
        refine ga_firstN 35 (bm 45 68719476735) rfl rfl rfl rfl rfl rfl (by kernel_rfl) (by kernel_rfl) ⟨[0], by decide, rfl⟩ ?_
        refine ga_firstN 36 (bm 45 137438953471) rfl rfl rfl rfl rfl rfl (by kernel_rfl) (by kernel_rfl) ⟨[0], by decide, rfl⟩ ?_
        refine ga_firstN 37 (bm 45 274877906943) rfl rfl rfl rfl rfl rfl (by kernel_rfl) (by kernel_rfl) ⟨[0], by decide, rfl⟩ ?_
        refine ga_firstN 38 (bm 45 549755813887) rfl rfl rfl rfl rfl rfl (by kernel_rfl) (by kernel_rfl) ⟨[0], by decide, rfl⟩ ?_
        refine ga_firstN 39 (bm 45 1099511627775) rfl rfl rfl rfl rfl rfl (by kernel_rfl) (by kernel_rfl) ⟨[0], by decide, rfl⟩ ?_
        refine ga_firstN 40 (bm 45 2199023255551) rfl rfl rfl rfl rfl rfl (by kernel_rfl) (by kernel_rfl) ⟨[0], by decide, rfl⟩ ?_
        refine ga_firstN 41 (bm 45 4398046511103) rfl rfl rfl rfl rfl rfl (by kernel_rfl) (by kernel_rfl) ⟨[0], by decide, rfl⟩ ?_
        refine ga_firstN 42 (bm 45 8796093022207) rfl rfl rfl rfl rfl rfl (by kernel_rfl) (by kernel_rfl) ⟨[0], by decide, rfl⟩ ?_
        refine ga_firstN 43 (bm 45 17592186044415) rfl rfl rfl rfl rfl rfl (by kernel_rfl) (by kernel_rfl) ⟨[0], by decide, rfl⟩ ?_
        refine ga_first 44 (bm 45 35184372088831) rfl rfl rfl rfl (by kernel_rfl) (by kernel_rfl) ⟨[0], by decide, rfl⟩ (qt_rd (rd_pick_f rfl rfl)) ?_
        refine ga_end (by kernel_rfl) (.inr ⟨[0], by decide, rfl⟩) ?_
        refine gx_then <| gc_cond_f rfl <| gc_skip <| gx_block <| gx_then <| gc_region <| gl_op (op_rd rfl (by exact rd_addN (b := 1) rfl rfl (by omega)) ?_)
        refine gl_op <| op_rd rfl (rd_move rfl) <| gl_nil <| gx_then ?_
        rw [← cnt_no hz (.inl h76)]
        exact gx_cut (k + 1) ⟨by omega, by omega⟩ ⟨rfl, rfl, rfl, rfl, rfl, rfl, rfl, rfl, rfl, rfl, trivial⟩ ⟨[], by decide, rfl⟩
      have hk9 : k = l.length := by omega
      subst hk9
      refine gl_nil <| gx_then <| gc_seq <| gc_cond_f rfl <| gc_exit <| gx_then_exit <| gx_then_exit <| gx_block_exit <| gx_then <| gc_seq <| gc_drawP [] true 15 rfl <| ga_first 0 (bm 16 1) rfl rfl rfl rfl (by kernel_rfl) (by kernel_rfl) ⟨[], by decide, rfl⟩ (qt_rd (rd_move rfl)) ?_
      refine ga_first 1 (bm 16 3) rfl rfl rfl rfl (by kernel_rfl) (by kernel_rfl) ⟨[], by decide, rfl⟩ (qt_rd (rd_move rfl)) ?_
      refine ga_first 2 (bm 16 7) rfl rfl rfl rfl (by kernel_rfl) (by kernel_rfl) ⟨[], by decide, rfl⟩ (qt_rd (rd_nilCheck rfl)) ?_
      refine ga_first 3 (bm 16 15) rfl rfl rfl rfl (by kernel_rfl) (by kernel_rfl) ⟨[], by decide, rfl⟩ (qt_rd (rd_fieldAddr rfl (fa_76_0 _))) ?_
      refine ga_first 4 (bm 16 31) rfl rfl rfl rfl (by kernel_rfl) (by kernel_rfl) ⟨[], by decide, rfl⟩ (qt_rd (rd_load Try.underlying29 rfl rfl (ld_sl hP rfl))) ?_
      refine ga_first 5 (bm 16 63) rfl rfl rfl rfl (by kernel_rfl) (by kernel_rfl) ⟨[], by decide, rfl⟩ (qt_rd (rd_move rfl)) ?_
      refine ga_first 6 (bm 16 127) rfl rfl rfl rfl (by kernel_rfl) (by kernel_rfl) ⟨[], by decide, rfl⟩ (qt_rd (rd_nilCheck rfl)) ?_
      refine ga_first 7 (bm 16 255) rfl rfl rfl rfl (by kernel_rfl) (by kernel_rfl) ⟨[], by decide, rfl⟩ (qt_rd (rd_fieldAddr rfl (fa_76_1 _))) ?_
      refine ga_first 8 (bm 16 511) rfl rfl rfl rfl (by kernel_rfl) (by kernel_rfl) ⟨[], by decide, rfl⟩ (qt_rd (rd_load Try.underlying22 rfl rfl (ld_sl hP rfl))) ?_
      refine ga_first 9 (bm 16 1023) rfl rfl rfl rfl (by kernel_rfl) (by kernel_rfl) ⟨[], by decide, rfl⟩ (qt_rd (rd_move rfl)) ?_
      refine ga_first 10 (bm 16 2047) rfl rfl rfl rfl (by kernel_rfl) (by kernel_rfl) ⟨[], by decide, rfl⟩ (qt_rd (rd_indexOld hJ.t Try.underlying22 ty_48 rfl rfl (by omega) (by omega))) ?_
      refine ga_first 11 (bm 16 4095) rfl rfl rfl rfl (by kernel_rfl) (by kernel_rfl) ⟨[], by decide, rfl⟩ (qt_rd (rd_fieldAddr rfl (fa_48_1 _))) ?_
      refine ga_first 12 (bm 16 8191) rfl rfl rfl rfl (by kernel_rfl) (by kernel_rfl) ⟨[], by decide, rfl⟩ (qt_rd (rd_load Try.underlying3 rfl rfl (ld_slf hJ.t (get_flat Jb.cells 4 (fun _ => rfl) hx (j := 1) (by decide) rfl)))) ?_
      refine ga_first 13 (bm 16 16383) rfl rfl rfl rfl (by kernel_rfl) (by kernel_rfl) ⟨[], by decide, rfl⟩ (qt_rd (rd_indexOld1 hS Try.underlying29 ty_3 rfl rfl (by omega) (by omega))) ?_
      refine ga_first 14 (bm 16 32767) rfl rfl rfl rfl (by kernel_rfl) (by kernel_rfl) ⟨[], by decide, rfl⟩ (qt_rd (rd_load Try.underlying3 rfl rfl (ld_slN hS (get_intL hs)))) ?_
      refine ga_first 15 (bm 16 65535) rfl rfl rfl rfl (by kernel_rfl) (by kernel_rfl) ⟨[], by decide, rfl⟩ (qt_rd (rd_geq rfl rfl)) (gk_dec (fun h133 => ?_) (fun h133 => ?_))
      · refine ga_end (by kernel_rfl) (.inr ⟨[], by decide, rfl⟩) ?_
        refine gx_then <| gc_cond_t rfl <| gc_seq <| gc_region <| gl_op <| op_rd rfl (rd_assign rfl) <| gl_nil <| gx_then <| gc_ret <| gx_block_ret <| gx_then_ret <| gx_then_ret <| gx_block_ret <| gx_then_ret <| gx_ret1 (.inl rfl) Try.results74 rfl [] (by decide) ?_
        refine ⟨congrArg Value.bool (Eq.symm ?_), rfl⟩
        exact free_no (h := t) (by omega) (by omega) (by rw [hsb, hbn]; unfold cntA; omega)
      refine ga_end (by kernel_rfl) (.inr ⟨[], by decide, rfl⟩) ?_
      refine gx_then <| gc_cond_f rfl <| gc_skip <| gx_block <| gx_then <| gc_region <| gl_op <| op_rd rfl (rd_move rfl) <| gl_op (op_rd rfl (by exact rd_add rfl rfl (by omega) (by omega)) ?_)
      refine gl_op <| op_rd rfl (rd_assign rfl) <| gl_nil <| gx_then ?_
      rw [show (k0 : Int) - 1 + 1 = ((k0 + 1 : Nat) : Int) - 1 by omega]
      exact gx_cut (k0 + 1) ⟨⟨by omega, fun _ => by unfold cntA; omega, fun q hq => by omega⟩, by omega⟩ ⟨rfl, rfl, rfl, rfl, rfl, trivial⟩ ⟨[], by decide, rfl⟩
    refine gc_region <| gl_op <| op_rd rfl (rd_move rfl) <| gl_op <| op_rd rfl (rd_assign rfl) <| gl_nil <| gx_then <| gc_seq <| gc_seq <| gc_region <| gl_op <| op_rd rfl (rd_move rfl) <| gl_op (op_rd rfl (rd_geq rfl rfl) (gk_dec (fun h34 => ?_) (fun h34 => ?_)))
    · obtain ⟨k1, rfl⟩ : ∃ k1, k0 = k1 + 1 := ⟨k0 - 1, by omega⟩
      have hkb1 := hpb k1
      rw [show ((k1 + 1 : Nat) : Int) - 1 = ((k1 : Nat) : Int) by omega]
      refine gl_nil <| gx_then <| gc_cond_t rfl <| gc_seq <| gc_region <| gl_op <| op_rd rfl (rd_move rfl) <| gl_op <| op_rd rfl (rd_nilCheck rfl) <| gl_op <| op_rd rfl (rd_fieldAddr rfl (fa_76_2 _)) <| gl_op <| op_rd rfl (rd_load Try.underlying25 rfl rfl (ld_sl hP rfl)) <| gl_op <| op_rd rfl (rd_move rfl) <| gl_op (op_rd rfl (rd_indexOld1 hA Try.underlying25 ty_2 rfl rfl (by omega) (by omega)) ?_)
      refine gl_op (op_rd rfl (rd_load Try.underlying2 rfl rfl (ld_slN hA (get_atQ (k := k1) (by omega)))) ?_)
      refine gl_op <| op_rd rfl (rd_assign rfl) <| gl_nil <| gx_then <| gc_seq <| gc_region <| gl_op <| op_rd rfl (rd_move rfl) <| gl_op <| op_rd rfl (rd_nilCheck rfl) <| gl_op <| op_rd rfl (rd_fieldAddr rfl (fa_76_3 _)) <| gl_op <| op_rd rfl (rd_load Try.underlying74 rfl rfl (ld_sl hP rfl)) <| gl_op <| op_rd rfl (rd_move rfl) <| gl_op (op_rd rfl (rd_indexOld1 hB Try.underlying74 ty_4 rfl rfl (by omega) (by omega)) ?_)
      refine gl_op (op_rd rfl (rd_load Try.underlying4 rfl rfl (ld_slN hB (get_plQ (k := k1) (by omega)))) ?_)
      refine gk_bool (fun h48 => ?_) (fun h48 => ?_)
      · refine gl_op <| op_rd rfl (rd_not rfl) <| gl_op <| op_rd rfl (rd_move rfl) <| gl_yes rfl rfl <| op_rd rfl (rd_move rfl) <| gl_yes rfl rfl <| op_rd rfl (rd_move rfl) <| gl_yes rfl rfl (op_rd rfl (rd_leq rfl rfl) (gk_dec (fun h53 => ?_) (fun h53 => ?_)))
        · refine gl_op <| op_rd rfl (rd_pick_f rfl rfl) <| gl_op <| op_rd rfl (rd_move rfl) <| gl_no rfl rfl rfl <| gl_no rfl rfl rfl <| gl_no rfl rfl rfl <| gl_op <| op_rd rfl (rd_pick_t rfl rfl) <| gl_nil <| gx_then <| gc_cond_t rfl <| gc_exit <| gx_then_exit <| gx_block_exit <| gx_then <| gc_region <| gl_op <| op_rd rfl (rd_move rfl) <| gl_op (op_rd rfl (by exact rd_addN (b := 1) rfl rfl (by omega)) ?_)
          refine gl_op <| op_rd rfl (rd_assign rfl) <| gl_nil <| gx_then ?_
          rw [show ((k1 + 1 : Nat) : Int) = ((k1 + 1 + 1 : Nat) : Int) - 1 by omega]
          exact gx_cut (k1 + 1 + 1) ⟨⟨by omega, fun _ => hz0 (by omega), fun q hq hp h1 h2 => by
            rcases Nat.lt_or_ge (q + 1) (k1 + 1) with h9 | h9
            · exact hall q h9 hp h1 h2
            · have h8 : q = k1 := by omega
              subst h8
              (exfalso; omega)⟩, by omega⟩ ⟨rfl, rfl, rfl, rfl, rfl, trivial⟩ ⟨[], by decide, rfl⟩
        refine gl_op <| op_rd rfl (rd_pick_f rfl rfl) <| gl_op <| op_rd rfl (rd_move rfl) <| gl_yes rfl rfl <| op_rd rfl (rd_move rfl) <| gl_yes rfl rfl <| op_rd rfl (rd_move rfl) <| gl_yes rfl rfl (op_rd rfl (rd_geq rfl rfl) (gk_dec (fun h58 => ?_) (fun h58 => ?_)))
        · refine gl_op <| op_rd rfl (rd_pick_f rfl rfl) <| gl_nil <| gx_then <| gc_cond_t rfl <| gc_exit <| gx_then_exit <| gx_block_exit <| gx_then <| gc_region <| gl_op <| op_rd rfl (rd_move rfl) <| gl_op (op_rd rfl (by exact rd_addN (b := 1) rfl rfl (by omega)) ?_)
          refine gl_op <| op_rd rfl (rd_assign rfl) <| gl_nil <| gx_then ?_
          rw [show ((k1 + 1 : Nat) : Int) = ((k1 + 1 + 1 : Nat) : Int) - 1 by omega]
          exact gx_cut (k1 + 1 + 1) ⟨⟨by omega, fun _ => hz0 (by omega), fun q hq hp h1 h2 => by
            rcases Nat.lt_or_ge (q + 1) (k1 + 1) with h9 | h9
            · exact hall q h9 hp h1 h2
            · have h8 : q = k1 := by omega
              subst h8
              (exfalso; omega)⟩, by omega⟩ ⟨rfl, rfl, rfl, rfl, rfl, trivial⟩ ⟨[], by decide, rfl⟩
        refine gl_op <| op_rd rfl (rd_pick_f rfl rfl) <| gl_nil <| gx_then <| gc_cond_f rfl <| gc_skip <| gx_then <| gc_seq <| gc_region <| gl_op <| op_rd rfl (rd_assign rfl) <| gl_nil <| gx_then <| gc_seq <| gc_seq <| gc_region <| gl_op <| op_rd rfl (rd_move rfl) <| gl_op <| op_rd rfl (rd_nilCheck rfl) <| gl_op <| op_rd rfl (rd_fieldAddr rfl (fa_76_1 _)) <| gl_op <| op_rd rfl (rd_load Try.underlying22 rfl rfl (ld_sl hP rfl)) <| gl_op <| op_rd rfl (rd_lenSlice Try.underlying22 rfl) <| gl_op <| op_rd rfl (rd_move rfl) <| gl_nil <| gx_then <| gc_block <| gc_loopF (ι := Nat) [(0, _), (1, _), (2, _), (7, _), (8, _), (9, _), (63, _), (64, _)] [] (fun k => k ≤ l.length) (fun k Fr0 => ((10, natV (cntQ l p x.bench (atN p k1) k)) :: (65, natV k) :: Fr0)) (fun k Fr0 => Fr0) (fun k => l.length - k) 0 (Nat.zero_le _) ⟨rfl, rfl, rfl, rfl, rfl, rfl, rfl, rfl, rfl, rfl, trivial⟩ ⟨[], by decide, rfl⟩ ?_
        rintro k hk
        refine gc_seq <| gc_region <| gl_op (op_rd rfl (rd_lss rfl rfl) (gk_dec (fun h66 => ?_) (fun h66 => ?_)))
        · obtain ⟨z, hz⟩ := get_some (show k < l.length by omega)
          have hzh := job_le hj hz
          have hkb := hpb k
          have hcl := cntQ_le l p x.bench (atN p k1) k
          have hzb := bn_at hz
          have hzr := hr_at hz
          refine gl_nil <| gx_then <| gc_seq <| gc_cond_t rfl <| gc_skip <| gx_then <| gc_seq <| gc_block <| gc_seq <| gc_region <| gl_op <| op_rd rfl (rd_move rfl) <| gl_op (op_rd rfl (rd_indexOld hJ.t Try.underlying22 ty_48 rfl rfl (by omega) (by omega)) ?_)
          refine gl_op (op_rd rfl (rd_loadAgg Try.underlying48 rfl ty_48 rfl (cs_slN hJ.t (flat_drop_get Jb.cells 4 (fun _ => rfl) hz)) rfl) ?_)
          refine gl_op (op_alloc ty_48 rfl rfl (fun b12 => ?_))
          refine gl_op <| op_rd rfl (rd_assign rfl) <| gl_op (op_storeAgg 0 ty_48 rfl rfl rfl rfl rfl rfl (by rfl) ?_)
          refine gl_nil <| gx_then <| gc_seq <| gc_drawP [0] true 44 rfl <| ga_first 0 (bm 45 1) rfl rfl rfl rfl (by kernel_rfl) (by kernel_rfl) ⟨[0], by decide, rfl⟩ (qt_rd (rd_move rfl)) ?_
          refine ga_first 1 (bm 45 3) rfl rfl rfl rfl (by kernel_rfl) (by kernel_rfl) ⟨[0], by decide, rfl⟩ (qt_rd (rd_nilCheck rfl)) ?_
          refine ga_first 2 (bm 45 7) rfl rfl rfl rfl (by kernel_rfl) (by kernel_rfl) ⟨[0], by decide, rfl⟩ (qt_rd (rd_fieldAddr rfl (fa_76_3 _))) ?_
          refine ga_first 3 (bm 45 15) rfl rfl rfl rfl (by kernel_rfl) (by kernel_rfl) ⟨[0], by decide, rfl⟩ (qt_rd (rd_load Try.underlying74 rfl rfl (ld_sl hP rfl))) ?_
          refine ga_first 4 (bm 45 31) rfl rfl rfl rfl (by kernel_rfl) (by kernel_rfl) ⟨[0], by decide, rfl⟩ (qt_rd (rd_move rfl)) ?_
          refine ga_first 5 (bm 45 63) rfl rfl rfl rfl (by kernel_rfl) (by kernel_rfl) ⟨[0], by decide, rfl⟩ (qt_rd (rd_indexOld1 hB Try.underlying74 ty_4 rfl rfl (by omega) (by omega))) ?_
          refine ga_first 6 (bm 45 127) rfl rfl rfl rfl (by kernel_rfl) (by kernel_rfl) ⟨[0], by decide, rfl⟩ (qt_rd (rd_load Try.underlying4 rfl rfl (ld_slN hB (get_plQ (k := k) (by omega))))) ?_
          refine gk_bool (fun h76 => ?_) (fun h76 => ?_)
          · refine ga_first 7 (bm 45 255) rfl rfl rfl rfl (by kernel_rfl) (by kernel_rfl) ⟨[0], by decide, rfl⟩ (qt_rd (rd_move rfl)) ?_
            refine ga_firstY 8 (bm 45 511) rfl rfl rfl rfl rfl rfl (by kernel_rfl) (by kernel_rfl) ⟨[0], by decide, rfl⟩ (qt_rd (rd_fieldAddr rfl (fa_48_1 _))) ?_
            refine ga_firstY 9 (bm 45 1023) rfl rfl rfl rfl rfl rfl (by kernel_rfl) (by kernel_rfl) ⟨[0], by decide, rfl⟩ (qt_rd (rd_load Try.underlying3 rfl rfl (by exact ld_blk 0 rfl rfl))) ?_
            refine ga_firstY 10 (bm 45 2047) rfl rfl rfl rfl rfl rfl (by kernel_rfl) (by kernel_rfl) ⟨[0], by decide, rfl⟩ (qt_rd (rd_move rfl)) ?_
            refine ga_firstY 11 (bm 45 4095) rfl rfl rfl rfl rfl rfl (by kernel_rfl) (by kernel_rfl) ⟨[0], by decide, rfl⟩ (qt_rd (rd_nilCheck rfl)) ?_
            refine ga_firstY 12 (bm 45 8191) rfl rfl rfl rfl rfl rfl (by kernel_rfl) (by kernel_rfl) ⟨[0], by decide, rfl⟩ (qt_rd (rd_fieldAddr rfl (fa_76_1 _))) ?_
            refine ga_firstY 13 (bm 45 16383) rfl rfl rfl rfl rfl rfl (by kernel_rfl) (by kernel_rfl) ⟨[0], by decide, rfl⟩ (qt_rd (rd_load Try.underlying22 rfl rfl (ld_sl hP rfl))) ?_
            refine ga_firstY 14 (bm 45 32767) rfl rfl rfl rfl rfl rfl (by kernel_rfl) (by kernel_rfl) ⟨[0], by decide, rfl⟩ (qt_rd (rd_move rfl)) ?_
            refine ga_firstY 15 (bm 45 65535) rfl rfl rfl rfl rfl rfl (by kernel_rfl) (by kernel_rfl) ⟨[0], by decide, rfl⟩ (qt_rd (rd_indexOld hJ.t Try.underlying22 ty_48 rfl rfl (by omega) (by omega))) ?_
            refine ga_firstY 16 (bm 45 131071) rfl rfl rfl rfl rfl rfl (by kernel_rfl) (by kernel_rfl) ⟨[0], by decide, rfl⟩ (qt_rd (rd_fieldAddr rfl (fa_48_1 _))) ?_
            refine ga_firstY 17 (bm 45 262143) rfl rfl rfl rfl rfl rfl (by kernel_rfl) (by kernel_rfl) ⟨[0], by decide, rfl⟩ (qt_rd (rd_load Try.underlying3 rfl rfl (ld_slf hJ.t (get_flat Jb.cells 4 (fun _ => rfl) hx (j := 1) (by decide) rfl)))) ?_
            refine ga_firstY 18 (bm 45 524287) rfl rfl rfl rfl rfl rfl (by kernel_rfl) (by kernel_rfl) ⟨[0], by decide, rfl⟩ (qt_rd (rd_eql rfl rfl)) (gk_dec (fun h88 => ?_) (fun h88 => ?_))
            · refine ga_first 19 (bm 45 1048575) rfl rfl rfl rfl (by kernel_rfl) (by kernel_rfl) ⟨[0], by decide, rfl⟩ (qt_rd (rd_pick_t rfl rfl)) ?_
              refine ga_first 20 (bm 45 2097151) rfl rfl rfl rfl (by kernel_rfl) (by kernel_rfl) ⟨[0], by decide, rfl⟩ (qt_rd (rd_move rfl)) ?_
              refine ga_firstY 21 (bm 45 4194303) rfl rfl rfl rfl rfl rfl (by kernel_rfl) (by kernel_rfl) ⟨[0], by decide, rfl⟩ (qt_rd (rd_move rfl)) ?_
              refine ga_firstY 22 (bm 45 8388607) rfl rfl rfl rfl rfl rfl (by kernel_rfl) (by kernel_rfl) ⟨[0], by decide, rfl⟩ (qt_rd (rd_nilCheck rfl)) ?_
              refine ga_firstY 23 (bm 45 16777215) rfl rfl rfl rfl rfl rfl (by kernel_rfl) (by kernel_rfl) ⟨[0], by decide, rfl⟩ (qt_rd (rd_fieldAddr rfl (fa_76_2 _))) ?_
              refine ga_firstY 24 (bm 45 33554431) rfl rfl rfl rfl rfl rfl (by kernel_rfl) (by kernel_rfl) ⟨[0], by decide, rfl⟩ (qt_rd (rd_load Try.underlying25 rfl rfl (ld_sl hP rfl))) ?_
              refine ga_firstY 25 (bm 45 67108863) rfl rfl rfl rfl rfl rfl (by kernel_rfl) (by kernel_rfl) ⟨[0], by decide, rfl⟩ (qt_rd (rd_move rfl)) ?_
              refine ga_firstY 26 (bm 45 134217727) rfl rfl rfl rfl rfl rfl (by kernel_rfl) (by kernel_rfl) ⟨[0], by decide, rfl⟩ (qt_rd (rd_indexOld1 hA Try.underlying25 ty_2 rfl rfl (by omega) (by omega))) ?_
              refine ga_firstY 27 (bm 45 268435455) rfl rfl rfl rfl rfl rfl (by kernel_rfl) (by kernel_rfl) ⟨[0], by decide, rfl⟩ (qt_rd (rd_load Try.underlying2 rfl rfl (ld_slN hA (get_atQ (k := k) (by omega))))) ?_
              refine ga_firstY 28 (bm 45 536870911) rfl rfl rfl rfl rfl rfl (by kernel_rfl) (by kernel_rfl) ⟨[0], by decide, rfl⟩ (qt_rd (rd_move rfl)) ?_
              refine ga_firstY 29 (bm 45 1073741823) rfl rfl rfl rfl rfl rfl (by kernel_rfl) (by kernel_rfl) ⟨[0], by decide, rfl⟩ (qt_rd (rd_leq rfl rfl)) (gk_dec (fun h99 => ?_) (fun h99 => ?_))
              · refine ga_first 30 (bm 45 2147483647) rfl rfl rfl rfl (by kernel_rfl) (by kernel_rfl) ⟨[0], by decide, rfl⟩ (qt_rd (rd_pick_t rfl rfl)) ?_
                refine ga_first 31 (bm 45 4294967295) rfl rfl rfl rfl (by kernel_rfl) (by kernel_rfl) ⟨[0], by decide, rfl⟩ (qt_rd (rd_move rfl)) ?_
                refine ga_firstY 32 (bm 45 8589934591) rfl rfl rfl rfl rfl rfl (by kernel_rfl) (by kernel_rfl) ⟨[0], by decide, rfl⟩ (qt_rd (rd_move rfl)) ?_
                refine ga_firstY 33 (bm 45 17179869183) rfl rfl rfl rfl rfl rfl (by kernel_rfl) (by kernel_rfl) ⟨[0], by decide, rfl⟩ (qt_rd (rd_move rfl)) ?_
                refine ga_firstY 34 (bm 45 34359738367) rfl rfl rfl rfl rfl rfl (by kernel_rfl) (by kernel_rfl) ⟨[0], by decide, rfl⟩ (qt_rd (rd_nilCheck rfl)) ?_
                refine ga_firstY 35 (bm 45 68719476735) rfl rfl rfl rfl rfl rfl (by kernel_rfl) (by kernel_rfl) ⟨[0], by decide, rfl⟩ (qt_rd (rd_fieldAddr rfl (fa_76_2 _))) ?_
                refine ga_firstY 36 (bm 45 137438953471) rfl rfl rfl rfl rfl rfl (by kernel_rfl) (by kernel_rfl) ⟨[0], by decide, rfl⟩ (qt_rd (rd_load Try.underlying25 rfl rfl (ld_sl hP rfl))) ?_
                refine ga_firstY 37 (bm 45 274877906943) rfl rfl rfl rfl rfl rfl (by kernel_rfl) (by kernel_rfl) ⟨[0], by decide, rfl⟩ (qt_rd (rd_move rfl)) ?_
                refine ga_firstY 38 (bm 45 549755813887) rfl rfl rfl rfl rfl rfl (by kernel_rfl) (by kernel_rfl) ⟨[0], by decide, rfl⟩ (qt_rd (rd_indexOld1 hA Try.underlying25 ty_2 rfl rfl (by omega) (by omega))) ?_
                refine ga_firstY 39 (bm 45 1099511627775) rfl rfl rfl rfl rfl rfl (by kernel_rfl) (by kernel_rfl) ⟨[0], by decide, rfl⟩ (qt_rd (rd_load Try.underlying2 rfl rfl (ld_slN hA (get_atQ (k := k) (by omega))))) ?_
                refine ga_firstY 40 (bm 45 2199023255551) rfl rfl rfl rfl rfl rfl (by kernel_rfl) (by kernel_rfl) ⟨[0], by decide, rfl⟩ (qt_rd (rd_fieldAddr rfl (fa_48_2 _))) ?_
                refine ga_firstY 41 (bm 45 4398046511103) rfl rfl rfl rfl rfl rfl (by kernel_rfl) (by kernel_rfl) ⟨[0], by decide, rfl⟩ (qt_rd (rd_load Try.underlying2 rfl rfl (by exact ld_blk 0 rfl rfl))) ?_
                refine ga_firstY 42 (bm 45 8796093022207) rfl rfl rfl rfl rfl rfl (by kernel_rfl) (by kernel_rfl) ⟨[0], by decide, rfl⟩ (qt_rd (by exact rd_addN rfl rfl (by omega))) ?_
                refine ga_firstY 43 (bm 45 17592186044415) rfl rfl rfl rfl rfl rfl (by kernel_rfl) (by kernel_rfl) ⟨[0], by decide, rfl⟩ (qt_rd (rd_lss rfl rfl)) (gk_dec (fun h113 => ?_) (fun h113 => ?_))
                · refine ga_first 44 (bm 45 35184372088831) rfl rfl rfl rfl (by kernel_rfl) (by kernel_rfl) ⟨[0], by decide, rfl⟩ (qt_rd (rd_pick_t rfl rfl)) ?_
                  refine ga_end (by kernel_rfl) (.inr ⟨[0], by decide, rfl⟩) ?_
                  refine gx_then <| gc_cond_t rfl <| gc_region <| gl_op <| op_rd rfl (rd_move rfl) <| gl_op (op_rd rfl (by exact rd_addN (b := 1) rfl rfl (by omega)) ?_)
                  refine gl_op <| op_rd rfl (rd_assign rfl) <| gl_nil <| gx_block <| gx_then <| gc_region <| gl_op (op_rd rfl (by exact rd_addN (b := 1) rfl rfl (by omega)) ?_)
                  refine gl_op <| op_rd rfl (rd_move rfl) <| gl_nil <| gx_then ?_
                  rw [← cnt_yes hz h76 (by omega)]
                  exact gx_cut (k + 1) ⟨by omega, by omega⟩ ⟨rfl, rfl, rfl, rfl, rfl, rfl, rfl, rfl, rfl, rfl, trivial⟩ ⟨[], by decide, rfl⟩
                refine ga_first 44 (bm 45 35184372088831) rfl rfl rfl rfl (by kernel_rfl) (by kernel_rfl) ⟨[0], by decide, rfl⟩ (qt_rd (rd_pick_t rfl rfl)) ?_
                refine ga_end (by kernel_rfl) (.inr ⟨[0], by decide, rfl⟩) ?_
                refine gx_then <| gc_cond_f rfl <| gc_skip <| gx_block <| gx_then <| gc_region <| gl_op (op_rd rfl (by exact rd_addN (b := 1) rfl rfl (by omega)) ?_)
                refine gl_op <| op_rd rfl (rd_move rfl) <| gl_nil <| gx_then ?_
                rw [← cnt_no hz (.inr (by omega))]
                exact gx_cut (k + 1) ⟨by omega, by omega⟩ ⟨rfl, rfl, rfl, rfl, rfl, rfl, rfl, rfl, rfl, rfl, trivial⟩ ⟨[], by decide, rfl⟩
              refine ga_first 30 (bm 45 2147483647) rfl rfl rfl rfl (by kernel_rfl) (by kernel_rfl) ⟨[0], by decide, rfl⟩ (qt_rd (rd_pick_t rfl rfl)) ?_
              refine ga_first 31 (bm 45 4294967295) rfl rfl rfl rfl (by kernel_rfl) (by kernel_rfl) ⟨[0], by decide, rfl⟩ (qt_rd (rd_move rfl)) ?_
              refine ga_firstN 32 (bm 45 8589934591) rfl rfl rfl rfl rfl rfl (by kernel_rfl) (by kernel_rfl) ⟨[0], by decide, rfl⟩ ?_
              refine ga_firstN 33 (bm 45 17179869183) rfl rfl rfl rfl rfl rfl (by kernel_rfl) (by kernel_rfl) ⟨[0], by decide, rfl⟩ ?_
              refine ga_firstN 34 (bm 45 34359738367) rfl rfl rfl rfl rfl rfl (by kernel_rfl) (by kernel_rfl) ⟨[0], by decide, rfl⟩ ?_
              refine ga_firstN 35 (bm 45 68719476735) rfl rfl rfl rfl rfl rfl (by kernel_rfl) (by kernel_rfl) ⟨[0], by decide, rfl⟩ ?_
              refine ga_firstN 36 (bm 45 137438953471) rfl rfl rfl rfl rfl rfl (by kernel_rfl) (by kernel_rfl) ⟨[0], by decide, rfl⟩ ?_
              refine ga_firstN 37 (bm 45 274877906943) rfl rfl rfl rfl rfl rfl (by kernel_rfl) (by kernel_rfl) ⟨[0], by decide, rfl⟩ ?_
              refine ga_firstN 38 (bm 45 549755813887) rfl rfl rfl rfl rfl rfl (by kernel_rfl) (by kernel_rfl) ⟨[0], by decide, rfl⟩ ?_
              refine ga_firstN 39 (bm 45 1099511627775) rfl rfl rfl rfl rfl rfl (by kernel_rfl) (by kernel_rfl) ⟨[0], by decide, rfl⟩ ?_
              refine ga_firstN 40 (bm 45 2199023255551) rfl rfl rfl rfl rfl rfl (by kernel_rfl) (by kernel_rfl) ⟨[0], by decide, rfl⟩ ?_
              refine ga_firstN 41 (bm 45 4398046511103) rfl rfl rfl rfl rfl rfl (by kernel_rfl) (by kernel_rfl) ⟨[0], by decide, rfl⟩ ?_
              refine ga_firstN 42 (bm 45 8796093022207) rfl rfl rfl rfl rfl rfl (by kernel_rfl) (by kernel_rfl) ⟨[0], by decide, rfl⟩ ?_
              refine ga_firstN 43 (bm 45 17592186044415) rfl rfl rfl rfl rfl rfl (by kernel_rfl) (by kernel_rfl) ⟨[0], by decide, rfl⟩ ?_
              refine ga_first 44 (bm 45 35184372088831) rfl rfl rfl rfl (by kernel_rfl) (by kernel_rfl) ⟨[0], by decide, rfl⟩ (qt_rd (rd_pick_f rfl rfl)) ?_
              refine ga_end (by kernel_rfl) (.inr ⟨[0], by decide, rfl⟩) ?_
              refine gx_then <| gc_cond_f rfl <| gc_skip <| gx_block <| gx_then <| gc_region <| gl_op (op_rd rfl (by exact rd_addN (b := 1) rfl rfl (by omega)) ?_)
              refine gl_op <| op_rd rfl (rd_move rfl) <| gl_nil <| gx_then ?_
              rw [← cnt_no hz (.inr (by omega))]
              exact gx_cut (k + 1) ⟨by omega, by omega⟩ ⟨rfl, rfl, rfl, rfl, rfl, rfl, rfl, rfl, rfl, rfl, trivial⟩ ⟨[], by decide, rfl⟩
            refine ga_first 19 (bm 45 1048575) rfl rfl rfl rfl (by kernel_rfl) (by kernel_rfl) ⟨[0], by decide, rfl⟩ (qt_rd (rd_pick_t rfl rfl)) ?_
            refine ga_first 20 (bm 45 2097151) rfl rfl rfl rfl (by kernel_rfl) (by kernel_rfl) ⟨[0], by decide, rfl⟩ (qt_rd (rd_move rfl)) ?_
            refine ga_firstN 21 (bm 45 4194303) rfl rfl rfl rfl rfl rfl (by kernel_rfl) (by kernel_rfl) ⟨[0], by decide, rfl⟩ ?_
            refine ga_firstN 22 (bm 45 8388607) rfl rfl rfl rfl rfl rfl (by kernel_rfl) (by kernel_rfl) ⟨[0], by decide, rfl⟩ ?_
            refine ga_firstN 23 (bm 45 16777215) rfl rfl rfl rfl rfl rfl (by kernel_rfl) (by kernel_rfl) ⟨[0], by decide, rfl⟩ ?_
            refine ga_firstN 24 (bm 45 33554431) rfl rfl rfl rfl rfl rfl (by kernel_rfl) (by kernel_rfl) ⟨[0], by decide, rfl⟩ ?_
            refine ga_firstN 25 (bm 45 67108863) rfl rfl rfl rfl rfl rfl (by kernel_rfl) (by kernel_rfl) ⟨[0], by decide, rfl⟩ ?_
            refine ga_firstN 26 (bm 45 134217727) rfl rfl rfl rfl rfl rfl (by kernel_rfl) (by kernel_rfl) ⟨[0], by decide, rfl⟩ ?_
            refine ga_firstN 27 (bm 45 268435455) rfl rfl rfl rfl rfl rfl (by kernel_rfl) (by kernel_rfl) ⟨[0], by decide, rfl⟩ ?_
            refine ga_firstN 28 (bm 45 536870911) rfl rfl rfl rfl rfl rfl (by kernel_rfl) (by kernel_rfl) ⟨[0], by decide, rfl⟩ ?_
            refine ga_firstN 29 (bm 45 1073741823) rfl rfl rfl rfl rfl rfl (by kernel_rfl) (by kernel_rfl) ⟨[0], by decide, rfl⟩ ?_
            refine ga_first 30 (bm 45 2147483647) rfl rfl rfl rfl (by kernel_rfl) (by kernel_rfl) ⟨[0], by decide, rfl⟩ (qt_rd (rd_pick_f rfl rfl)) ?_
            refine ga_first 31 (bm 45 4294967295) rfl rfl rfl rfl (by kernel_rfl) (by kernel_rfl) ⟨[0], by decide, rfl⟩ (qt_rd (rd_move rfl)) ?_
            refine ga_firstN 32 (bm 45 8589934591) rfl rfl rfl rfl rfl rfl (by kernel_rfl) (by kernel_rfl) ⟨[0], by decide, rfl⟩ ?_
            refine ga_firstN 33 (bm 45 17179869183) rfl rfl rfl rfl rfl rfl (by kernel_rfl) (by kernel_rfl) ⟨[0], by decide, rfl⟩ ?_
            refine ga_firstN 34 (bm 45 34359738367) rfl rfl rfl rfl rfl rfl (by kernel_rfl) (by kernel_rfl) ⟨[0], by decide, rfl⟩ ?_
            refine ga_firstN 35 (bm 45 68719476735) rfl rfl rfl rfl rfl rfl (by kernel_rfl) (by kernel_rfl) ⟨[0], by decide, rfl⟩ ?_
            refine ga_firstN 36 (bm 45 137438953471) rfl rfl rfl rfl rfl rfl (by kernel_rfl) (by kernel_rfl) ⟨[0], by decide, rfl⟩ ?_
            refine ga_firstN 37 (bm 45 274877906943) rfl rfl rfl rfl rfl rfl (by kernel_rfl) (by kernel_rfl) ⟨[0], by decide, rfl⟩ ?_
            refine ga_firstN 38 (bm 45 549755813887) rfl rfl rfl rfl rfl rfl (by kernel_rfl) (by kernel_rfl) ⟨[0], by decide, rfl⟩ ?_
            refine ga_firstN 39 (bm 45 1099511627775) rfl rfl rfl rfl rfl rfl (by kernel_rfl) (by kernel_rfl) ⟨[0], by decide, rfl⟩ ?_
            refine ga_firstN 40 (bm 45 2199023255551) rfl rfl rfl rfl rfl rfl (by kernel_rfl) (by kernel_rfl) ⟨[0], by decide, rfl⟩ ?_
            refine ga_firstN 41 (bm 45 4398046511103) rfl rfl rfl rfl rfl rfl (by kernel_rfl) (by kernel_rfl) ⟨[0], by decide, rfl⟩ ?_
            refine ga_firstN 42 (bm 45 8796093022207) rfl rfl rfl rfl rfl rfl (by kernel_rfl) (by kernel_rfl) ⟨[0], by decide, rfl⟩ ?_
            refine ga_firstN 43 (bm 45 17592186044415) rfl rfl rfl rfl rfl rfl (by kernel_rfl) (by kernel_rfl) ⟨[0], by decide, rfl⟩ ?_
            refine ga_first 44 (bm 45 35184372088831) rfl rfl rfl rfl (by kernel_rfl) (by kernel_rfl) ⟨[0], by decide, rfl⟩ (qt_rd (rd_pick_f rfl rfl)) ?_
            refine ga_end (by kernel_rfl) (.inr ⟨[0], by decide, rfl⟩) ?_
            refine gx_then <| gc_cond_f rfl <| gc_skip <| gx_block <| gx_then <| gc_region <| gl_op (op_rd rfl (by exact rd_addN (b := 1) rfl rfl (by omega)) ?_)
            refine gl_op <| op_rd rfl (rd_move rfl) <| gl_nil <| gx_then ?_
            rw [← cnt_no hz (.inr (by omega))]
            exact gx_cut (k + 1) ⟨by omega, by omega⟩ ⟨rfl, rfl, rfl, rfl, rfl, rfl, rfl, rfl, rfl, rfl, trivial⟩ ⟨[], by decide, rfl⟩
          refine ga_first 7 (bm 45 255) rfl rfl rfl rfl (by kernel_rfl) (by kernel_rfl) ⟨[0], by decide, rfl⟩ (qt_rd (rd_move rfl)) ?_
          refine ga_firstN 8 (bm 45 511) rfl rfl rfl rfl rfl rfl (by kernel_rfl) (by kernel_rfl) ⟨[0], by decide, rfl⟩ ?_
          refine ga_firstN 9 (bm 45 1023) rfl rfl rfl rfl rfl rfl (by kernel_rfl) (by kernel_rfl) ⟨[0], by decide, rfl⟩ ?_
          refine ga_firstN 10 (bm 45 2047) rfl rfl rfl rfl rfl rfl (by kernel_rfl) (by kernel_rfl) ⟨[0], by decide, rfl⟩ ?_
          refine ga_firstN 11 (bm 45 4095) rfl rfl rfl rfl rfl rfl (by kernel_rfl) (by kernel_rfl) ⟨[0], by decide, rfl⟩ ?_
          refine ga_firstN 12 (bm 45 8191) rfl rfl rfl rfl rfl rfl (by kernel_rfl) (by kernel_rfl) ⟨[0], by decide, rfl⟩ ?_
          refine ga_firstN 13 (bm 45 16383) rfl rfl rfl rfl rfl rfl (by kernel_rfl) (by kernel_rfl) ⟨[0], by decide, rfl⟩ ?_
          refine ga_firstN 14 (bm 45 32767) rfl rfl rfl rfl rfl rfl (by kernel_rfl) (by kernel_rfl) ⟨[0], by decide, rfl⟩ ?_
          refine ga_firstN 15 (bm 45 65535) rfl rfl rfl rfl rfl rfl (by kernel_rfl) (by kernel_rfl) ⟨[0], by decide, rfl⟩ ?_
          refine ga_firstN 16 (bm 45 131071) rfl rfl rfl rfl rfl rfl (by kernel_rfl) (by kernel_rfl) ⟨[0], by decide, rfl⟩ ?_
          refine ga_firstN 17 (bm 45 262143) rfl rfl rfl rfl rfl rfl (by kernel_rfl) (by kernel_rfl) ⟨[0], by decide, rfl⟩ ?_
          refine ga_firstN 18 (bm 45 524287) rfl rfl rfl rfl rfl rfl (by kernel_rfl) (by kernel_rfl) ⟨[0], by decide, rfl⟩ ?_
          refine ga_first 19 (bm 45 1048575) rfl rfl rfl rfl (by kernel_rfl) (by kernel_rfl) ⟨[0], by decide, rfl⟩ (qt_rd (rd_pick_f rfl rfl)) ?_
          refine ga_first 20 (bm 45 2097151) rfl rfl rfl rfl (by kernel_rfl) (by kernel_rfl) ⟨[0], by decide, rfl⟩ (qt_rd (rd_move rfl)) ?_
          refine ga_firstN 21 (bm 45 4194303) rfl rfl rfl rfl rfl rfl (by kernel_rfl) (by kernel_rfl) ⟨[0], by decide, rfl⟩ ?_
          refine ga_firstN 22 (bm 45 8388607) rfl rfl rfl rfl rfl rfl (by kernel_rfl) (by kernel_rfl) ⟨[0], by decide, rfl⟩ ?_
          refine ga_firstN 23 (bm 45 16777215) rfl rfl rfl rfl rfl rfl (by kernel_rfl) (by kernel_rfl) ⟨[0], by decide, rfl⟩ ?_
          refine ga_firstN 24 (bm 45 33554431) rfl rfl rfl rfl rfl rfl (by kernel_rfl) (by kernel_rfl) ⟨[0], by decide, rfl⟩ ?_
          refine ga_firstN 25 (bm 45 67108863) rfl rfl rfl rfl rfl rfl (by kernel_rfl) (by kernel_rfl) ⟨[0], by decide, rfl⟩ ?_
          refine ga_firstN 26 (bm 45 134217727) rfl rfl rfl rfl rfl rfl (by kernel_rfl) (by kernel_rfl) ⟨[0], by decide, rfl⟩ ?_
          refine ga_firstN 27 (bm 45 268435455) rfl rfl rfl rfl rfl rfl (by kernel_rfl) (by kernel_rfl) ⟨[0], by decide, rfl⟩ ?_
          refine ga_firstN 28 (bm 45 536870911) rfl rfl rfl rfl rfl rfl (by kernel_rfl) (by kernel_rfl) ⟨[0], by decide, rfl⟩ ?_
          refine ga_firstN 29 (bm 45 1073741823) rfl rfl rfl rfl rfl rfl (by kernel_rfl) (by kernel_rfl) ⟨[0], by decide, rfl⟩ ?_
          refine ga_first 30 (bm 45 2147483647) rfl rfl rfl rfl (by kernel_rfl) (by kernel_rfl) ⟨[0], by decide, rfl⟩ (qt_rd (rd_pick_f rfl rfl)) ?_
          refine ga_first 31 (bm 45 4294967295) rfl rfl rfl rfl (by kernel_rfl) (by kernel_rfl) ⟨[0], by decide, rfl⟩ (qt_rd (rd_move rfl)) ?_
          refine ga_firstN 32 (bm 45 8589934591) rfl rfl rfl rfl rfl rfl (by kernel_rfl) (by kernel_rfl) ⟨[0], by decide, rfl⟩ ?_
          refine ga_firstN 33 (bm 45 17179869183) rfl rfl rfl rfl rfl rfl (by kernel_rfl) (by kernel_rfl) ⟨[0], by decide, rfl⟩ ?_
          refine ga_firstN 34 (bm 45 34359738367) rfl rfl rfl rfl rfl rfl (by kernel_rfl) (by kernel_rfl) ⟨[0], by decide, rfl⟩ ?_
          refine ga_firstN 35 (bm 45 68719476735) rfl rfl rfl rfl rfl rfl (by kernel_rfl) (by kernel_rfl) ⟨[0], by decide, rfl⟩ ?_
          refine ga_firstN 36 (bm 45 137438953471) rfl rfl rfl rfl rfl rfl (by kernel_rfl) (by kernel_rfl) ⟨[0], by decide, rfl⟩ ?_
          refine ga_firstN 37 (bm 45 274877906943) rfl rfl rfl rfl rfl rfl (by kernel_rfl) (by kernel_rfl) ⟨[0], by decide, rfl⟩ ?_
          refine ga_firstN 38 (bm 45 549755813887) rfl rfl rfl rfl rfl rfl (by kernel_rfl) (by kernel_rfl) ⟨[0], by decide, rfl⟩ ?_
          refine ga_firstN 39 (bm 45 1099511627775) rfl rfl rfl rfl rfl rfl (by kernel_rfl) (by kernel_rfl) ⟨[0], by decide, rfl⟩ ?_
          refine ga_firstN 40 (bm 45 2199023255551) rfl rfl rfl rfl rfl rfl (by kernel_rfl) (by kernel_rfl) ⟨[0], by decide, rfl⟩ ?_
          refine ga_firstN 41 (bm 45 4398046511103) rfl rfl rfl rfl rfl rfl (by kernel_rfl) (by kernel_rfl) ⟨[0], by decide, rfl⟩ ?_
          refine ga_firstN 42 (bm 45 8796093022207) rfl rfl rfl rfl rfl rfl (by kernel_rfl) (by kernel_rfl) ⟨[0], by decide, rfl⟩ ?_
          refine ga_firstN 43 (bm 45 17592186044415) rfl rfl rfl rfl rfl rfl (by kernel_rfl) (by kernel_rfl) ⟨[0], by decide, rfl⟩ ?_
          refine ga_first 44 (bm 45 35184372088831) rfl rfl rfl rfl (by kernel_rfl) (by kernel_rfl) ⟨[0], by decide, rfl⟩ (qt_rd (rd_pick_f rfl rfl)) ?_
          refine ga_end (by kernel_rfl) (.inr ⟨[0], by decide, rfl⟩) ?_
          refine gx_then <| gc_cond_f rfl <| gc_skip <| gx_block <| gx_then <| gc_region <| gl_op (op_rd rfl (by exact rd_addN (b := 1) rfl rfl (by omega)) ?_)
          refine gl_op <| op_rd rfl (rd_move rfl) <| gl_nil <| gx_then ?_
          rw [← cnt_no hz (.inl h76)]
          exact gx_cut (k + 1) ⟨by omega, by omega⟩ ⟨rfl, rfl, rfl, rfl, rfl, rfl, rfl, rfl, rfl, rfl, trivial⟩ ⟨[], by decide, rfl⟩
        have hk9 : k = l.length := by omega
        subst hk9
        refine gl_nil <| gx_then <| gc_seq <| gc_cond_f rfl <| gc_exit <| gx_then_exit <| gx_then_exit <| gx_block_exit <| gx_then <| gc_seq <| gc_drawP [] true 15 rfl <| ga_first 0 (bm 16 1) rfl rfl rfl rfl (by kernel_rfl) (by kernel_rfl) ⟨[], by decide, rfl⟩ (qt_rd (rd_move rfl)) ?_
        refine ga_first 1 (bm 16 3) rfl rfl rfl rfl (by kernel_rfl) (by kernel_rfl) ⟨[], by decide, rfl⟩ (qt_rd (rd_move rfl)) ?_
        refine ga_first 2 (bm 16 7) rfl rfl rfl rfl (by kernel_rfl) (by kernel_rfl) ⟨[], by decide, rfl⟩ (qt_rd (rd_nilCheck rfl)) ?_
        refine ga_first 3 (bm 16 15) rfl rfl rfl rfl (by kernel_rfl) (by kernel_rfl) ⟨[], by decide, rfl⟩ (qt_rd (rd_fieldAddr rfl (fa_76_0 _))) ?_
        refine ga_first 4 (bm 16 31) rfl rfl rfl rfl (by kernel_rfl) (by kernel_rfl) ⟨[], by decide, rfl⟩ (qt_rd (rd_load Try.underlying29 rfl rfl (ld_sl hP rfl))) ?_
        refine ga_first 5 (bm 16 63) rfl rfl rfl rfl (by kernel_rfl) (by kernel_rfl) ⟨[], by decide, rfl⟩ (qt_rd (rd_move rfl)) ?_
        refine ga_first 6 (bm 16 127) rfl rfl rfl rfl (by kernel_rfl) (by kernel_rfl) ⟨[], by decide, rfl⟩ (qt_rd (rd_nilCheck rfl)) ?_
        refine ga_first 7 (bm 16 255) rfl rfl rfl rfl (by kernel_rfl) (by kernel_rfl) ⟨[], by decide, rfl⟩ (qt_rd (rd_fieldAddr rfl (fa_76_1 _))) ?_
        refine ga_first 8 (bm 16 511) rfl rfl rfl rfl (by kernel_rfl) (by kernel_rfl) ⟨[], by decide, rfl⟩ (qt_rd (rd_load Try.underlying22 rfl rfl (ld_sl hP rfl))) ?_
        refine ga_first 9 (bm 16 1023) rfl rfl rfl rfl (by kernel_rfl) (by kernel_rfl) ⟨[], by decide, rfl⟩ (qt_rd (rd_move rfl)) ?_
        refine ga_first 10 (bm 16 2047) rfl rfl rfl rfl (by kernel_rfl) (by kernel_rfl) ⟨[], by decide, rfl⟩ (qt_rd (rd_indexOld hJ.t Try.underlying22 ty_48 rfl rfl (by omega) (by omega))) ?_
        refine ga_first 11 (bm 16 4095) rfl rfl rfl rfl (by kernel_rfl) (by kernel_rfl) ⟨[], by decide, rfl⟩ (qt_rd (rd_fieldAddr rfl (fa_48_1 _))) ?_
        refine ga_first 12 (bm 16 8191) rfl rfl rfl rfl (by kernel_rfl) (by kernel_rfl) ⟨[], by decide, rfl⟩ (qt_rd (rd_load Try.underlying3 rfl rfl (ld_slf hJ.t (get_flat Jb.cells 4 (fun _ => rfl) hx (j := 1) (by decide) rfl)))) ?_
        refine ga_first 13 (bm 16 16383) rfl rfl rfl rfl (by kernel_rfl) (by kernel_rfl) ⟨[], by decide, rfl⟩ (qt_rd (rd_indexOld1 hS Try.underlying29 ty_3 rfl rfl (by omega) (by omega))) ?_
        refine ga_first 14 (bm 16 32767) rfl rfl rfl rfl (by kernel_rfl) (by kernel_rfl) ⟨[], by decide, rfl⟩ (qt_rd (rd_load Try.underlying3 rfl rfl (ld_slN hS (get_intL hs)))) ?_
        refine ga_first 15 (bm 16 65535) rfl rfl rfl rfl (by kernel_rfl) (by kernel_rfl) ⟨[], by decide, rfl⟩ (qt_rd (rd_geq rfl rfl)) (gk_dec (fun h133 => ?_) (fun h133 => ?_))
        · refine ga_end (by kernel_rfl) (.inr ⟨[], by decide, rfl⟩) ?_
          refine gx_then <| gc_cond_t rfl <| gc_seq <| gc_region <| gl_op <| op_rd rfl (rd_assign rfl) <| gl_nil <| gx_then <| gc_ret <| gx_block_ret <| gx_then_ret <| gx_then_ret <| gx_block_ret <| gx_then_ret <| gx_ret1 (.inl rfl) Try.results74 rfl [] (by decide) ?_
          refine ⟨congrArg Value.bool (Eq.symm ?_), rfl⟩
          exact free_no (h := atN p k1) (by omega) (by omega) (by rw [hsb, hbn]; unfold cntA; omega)
        refine ga_end (by kernel_rfl) (.inr ⟨[], by decide, rfl⟩) ?_
        refine gx_then <| gc_cond_f rfl <| gc_skip <| gx_block <| gx_then <| gc_region <| gl_op <| op_rd rfl (rd_move rfl) <| gl_op (op_rd rfl (by exact rd_addN (b := 1) rfl rfl (by omega)) ?_)
        refine gl_op <| op_rd rfl (rd_assign rfl) <| gl_nil <| gx_then ?_
        rw [show ((k1 + 1 : Nat) : Int) = ((k1 + 1 + 1 : Nat) : Int) - 1 by omega]
        exact gx_cut (k1 + 1 + 1) ⟨⟨by omega, fun _ => hz0 (by omega), fun q hq hp h1 h2 => by
          rcases Nat.lt_or_ge (q + 1) (k1 + 1) with h9 | h9
          · exact hall q h9 hp h1 h2
          · have h8 : q = k1 := by omega
            subst h8
            (unfold cntA; omega)⟩, by omega⟩ ⟨rfl, rfl, rfl, rfl, rfl, trivial⟩ ⟨[], by decide, rfl⟩
      refine gl_op <| op_rd rfl (rd_not rfl) <| gl_op <| op_rd rfl (rd_move rfl) <| gl_no rfl rfl rfl <| gl_no rfl rfl rfl <| gl_no rfl rfl rfl <| gl_op <| op_rd rfl (rd_pick_t rfl rfl) <| gl_op <| op_rd rfl (rd_move rfl) <| gl_no rfl rfl rfl <| gl_no rfl rfl rfl <| gl_no rfl rfl rfl <| gl_op <| op_rd rfl (rd_pick_t rfl rfl) <| gl_nil <| gx_then <| gc_cond_t rfl <| gc_exit <| gx_then_exit <| gx_block_exit <| gx_then <| gc_region <| gl_op <| op_rd rfl (rd_move rfl) <| gl_op (op_rd rfl (by exact rd_addN (b := 1) rfl rfl (by omega)) ?_)
      refine gl_op <| op_rd rfl (rd_assign rfl) <| gl_nil <| gx_then ?_
      rw [show ((k1 + 1 : Nat) : Int) = ((k1 + 1 + 1 : Nat) : Int) - 1 by omega]
      exact gx_cut (k1 + 1 + 1) ⟨⟨by omega, fun _ => hz0 (by omega), fun q hq hp h1 h2 => by
        rcases Nat.lt_or_ge (q + 1) (k1 + 1) with h9 | h9
        · exact hall q h9 hp h1 h2
        · have h8 : q = k1 := by omega
          subst h8
          (rw [hp] at h48; cases h48; done)⟩, by omega⟩ ⟨rfl, rfl, rfl, rfl, rfl, trivial⟩ ⟨[], by decide, rfl⟩
    omega
  refine gl_nil <| gx_then <| gc_cond_f rfl <| gc_exit <| gx_then_exit <| gx_then_exit <| gx_block_exit <| gx_then <| gc_seq <| gc_region <| gl_op <| op_rd rfl (rd_assign rfl) <| gl_nil <| gx_then <| gc_ret <| gx_ret1 (.inl rfl) Try.results74 rfl [] (by decide) ?_
  refine ⟨congrArg Value.bool (Eq.symm ?_), rfl⟩
  rw [freeB_iff]
  refine free_of_starts (by rw [hsb, hbn]; exact hz0 (by omega)) fun q hq hp h1 h2 => ?_
  rw [hsb, hbn]
  exact hall q (by omega) hp h1 (by omega)
end Go.Proofs.Ytafmcflggikbfaa
namespace Go.Proofs.Ytafmcflggikbfaa
open Go.Gv
open Go.RowKit
open Go.Sn
open Go.Wk
open Sx
namespace Sx
theorem aft_bdQ {l : List Jb} (hj : JOk l) {p : Plc} (hpb : ∀ j, atN p j ≤ 100000) {i : Nat} (hi : i < l.length) : aftP1 l p i ≤ 102000 := by
  unfold aftP1
  rw [aft_le]
  intro a ha
  have h1 := hj.job i hi a ha
  have h2 := hr_bd hj a.1
  have h3 := hpb a.1
  unfold atN at h3
  omega
theorem end_at {l : List Jb} {p : Plc} {k : Nat} {z : Jb} (hz : l[k]? = some z) : endP1 l p k = atN p k + z.hours := by unfold endP1; rw [hr_at hz]
end Sx
open Sx
end Go.Proofs.Ytafmcflggikbfaa
namespace Go.Proofs.Ytafmcflggikbfaa
open Go.Gv
open Go.RowKit
open Go.Sn
open Go.Wk
open Sx
namespace Sx
def lexI : List Int → List Int → Bool
  | a :: xs, b :: ys => if a = b then lexI xs ys else decide (a < b)
  | _, _ => false
theorem lex_cast : ∀ a b : List Nat, lexI (castL a) (castL b) = lexB a b
  | [], _ => by simp [castL, lexI, lexB]
  | _ :: _, [] => by simp [castL, lexI, lexB]
  | x :: xs, y :: ys => by
    have ih := lex_cast xs ys
    unfold castL at ih ⊢
    simp only [List.map_cons, lexI, lexB]
    by_cases e : x = y
    · subst e; simp [ih]
    · rw [if_neg (by omega), if_neg e]
      rw [decide_eq_decide]; omega
theorem lex_step {a b : List Int} {k : Nat} {x y : Int} (hx : a[k]? = some x) (hy : b[k]? = some y) : lexI (a.drop k) (b.drop k) = if x = y then lexI (a.drop (k + 1)) (b.drop (k + 1)) else decide (x < y) := by
  rw [drop_at hx, drop_at hy, lexI]
theorem lex_end {a b : List Int} {k : Nat} (h : a.length ≤ k ∨ b.length ≤ k) : lexI (a.drop k) (b.drop k) = false := by
  rcases h with h | h
  · rw [List.drop_eq_nil_of_le h]; simp [lexI]
  · rw [List.drop_eq_nil_of_le h]
    cases a.drop k <;> simp [lexI]
end Sx
open Sx
set_option maxRecDepth 100000 in
set_option maxHeartbeats 1000000 in
theorem SameHours_ok (qa : Option Addr) (ca : Nat) (qb : Option Addr) (cb : Nat) (g : List Int) (hgl : g.length ≤ 140737488355328) (w0 : World) (hA : OldSl w0 [] qa g.length 1 (g.map intV)) (hB : OldSl w0 [] qb g.length 1 (g.map intV)) : Sp Try.prog 16 [.slice qa g.length ca, .slice qb g.length cb] w0 [] (RV (.bool true)) := by
  refine spec_enter Try.func16 rfl Try.ntmps16 rfl (Own.refl _) ?_
  simp only [argEnv]
  refine gc_seq <| gc_region <| gl_op <| op_rd rfl (rd_assign rfl) <| gl_nil <| gx_then <| gc_seq <| gc_seq <| gc_region <| gl_op <| op_rd rfl (rd_assign rfl) <| gl_nil <| gx_then <| gc_block <| gc_loopF (ι := Nat) [(0, _), (1, _)] [] (fun k => k ≤ g.length) (fun k Fr0 => ((5, natV k) :: Fr0)) (fun k Fr0 => Fr0) (fun k => g.length - k) 0 (Nat.zero_le _) ⟨rfl, rfl, rfl, trivial⟩ ⟨[], by decide, rfl⟩ ?_
  rintro k hk
  refine gc_seq <| gc_seq <| gc_region <| gl_op <| op_rd rfl (rd_move rfl) <| gl_op <| op_rd rfl (rd_move rfl) <| gl_op <| op_rd rfl (rd_lenSlice Try.underlying25 rfl) <| gl_op (op_rd rfl (rd_lss rfl rfl) (gk_dec (fun h9 => ?_) (fun h9 => ?_)))
  · refine gl_op <| op_rd rfl (rd_move rfl) <| gl_yes rfl rfl <| op_rd rfl (rd_move rfl) <| gl_yes rfl rfl <| op_rd rfl (rd_move rfl) <| gl_yes rfl rfl <| op_rd rfl (rd_lenSlice Try.underlying25 rfl) <| gl_yes rfl rfl (op_rd rfl (rd_lss rfl rfl) (gk_dec (fun h14 => ?_) (fun h14 => ?_)))
    · obtain ⟨x, hx⟩ := get_some (show k < g.length by omega)
      refine gl_op <| op_rd rfl (rd_pick_t rfl rfl) <| gl_nil <| gx_then <| gc_cond_t rfl <| gc_skip <| gx_then <| gc_seq <| gc_block <| gc_seq <| gc_drawP [] true 8 rfl <| ga_first 0 (bm 9 1) rfl rfl rfl rfl (by kernel_rfl) (by kernel_rfl) ⟨[], by decide, rfl⟩ (qt_rd (rd_move rfl)) ?_
      refine ga_first 1 (bm 9 3) rfl rfl rfl rfl (by kernel_rfl) (by kernel_rfl) ⟨[], by decide, rfl⟩ (qt_rd (rd_move rfl)) ?_
      refine ga_first 2 (bm 9 7) rfl rfl rfl rfl (by kernel_rfl) (by kernel_rfl) ⟨[], by decide, rfl⟩ (qt_rd (rd_indexOld1 hA Try.underlying25 ty_2 rfl rfl (by omega) (by omega))) ?_
      refine ga_first 3 (bm 9 15) rfl rfl rfl rfl (by kernel_rfl) (by kernel_rfl) ⟨[], by decide, rfl⟩ (qt_rd (rd_load Try.underlying2 rfl rfl (ld_slN hA (get_intL hx)))) ?_
      refine ga_first 4 (bm 9 31) rfl rfl rfl rfl (by kernel_rfl) (by kernel_rfl) ⟨[], by decide, rfl⟩ (qt_rd (rd_move rfl)) ?_
      refine ga_first 5 (bm 9 63) rfl rfl rfl rfl (by kernel_rfl) (by kernel_rfl) ⟨[], by decide, rfl⟩ (qt_rd (rd_move rfl)) ?_
      refine ga_first 6 (bm 9 127) rfl rfl rfl rfl (by kernel_rfl) (by kernel_rfl) ⟨[], by decide, rfl⟩ (qt_rd (rd_indexOld1 hB Try.underlying25 ty_2 rfl rfl (by omega) (by omega))) ?_
      refine ga_first 7 (bm 9 255) rfl rfl rfl rfl (by kernel_rfl) (by kernel_rfl) ⟨[], by decide, rfl⟩ (qt_rd (rd_load Try.underlying2 rfl rfl (ld_slN hB (get_intL hx)))) ?_
      refine ga_first 8 (bm 9 511) rfl rfl rfl rfl (by kernel_rfl) (by kernel_rfl) ⟨[], by decide, rfl⟩ (qt_rd (rd_neq rfl rfl)) (gk_dec (fun h26 => ?_) (fun h26 => ?_))
      · exact absurd rfl h26
      refine ga_end (by kernel_rfl) (.inr ⟨[], by decide, rfl⟩) ?_
      refine gx_then <| gc_cond_f rfl <| gc_skip <| gx_block <| gx_then <| gc_region <| gl_op <| op_rd rfl (rd_move rfl) <| gl_op (op_rd rfl (by exact rd_addN (b := 1) rfl rfl (by omega)) ?_)
      refine gl_op <| op_rd rfl (rd_assign rfl) <| gl_nil <| gx_then ?_
      exact gx_cut (k + 1) ⟨by omega, by omega⟩ ⟨rfl, rfl, rfl, trivial⟩ ⟨[], by decide, rfl⟩
    refine gl_op <| op_rd rfl (rd_pick_t rfl rfl) <| gl_nil <| gx_then <| gc_cond_f rfl <| gc_exit <| gx_then_exit <| gx_then_exit <| gx_block_exit <| gx_then <| gc_seq <| gc_region <| gl_op <| op_rd rfl (rd_move rfl) <| gl_op <| op_rd rfl (rd_lenSlice Try.underlying25 rfl) <| gl_op <| op_rd rfl (rd_move rfl) <| gl_op <| op_rd rfl (rd_lenSlice Try.underlying25 rfl) <| gl_op <| op_rd rfl (rd_eql rfl rfl) <| gl_op <| op_rd rfl (rd_assign rfl) <| gl_nil <| gx_then <| gc_ret <| gx_ret1 (.inl rfl) Try.results16 rfl [] (by decide) ?_
    exact ⟨congrArg Value.bool (decide_eq_true rfl), rfl⟩
  refine gl_op <| op_rd rfl (rd_move rfl) <| gl_no rfl rfl rfl <| gl_no rfl rfl rfl <| gl_no rfl rfl rfl <| gl_no rfl rfl rfl <| gl_op <| op_rd rfl (rd_pick_f rfl rfl) <| gl_nil <| gx_then <| gc_cond_f rfl <| gc_exit <| gx_then_exit <| gx_then_exit <| gx_block_exit <| gx_then <| gc_seq <| gc_region <| gl_op <| op_rd rfl (rd_move rfl) <| gl_op <| op_rd rfl (rd_lenSlice Try.underlying25 rfl) <| gl_op <| op_rd rfl (rd_move rfl) <| gl_op <| op_rd rfl (rd_lenSlice Try.underlying25 rfl) <| gl_op <| op_rd rfl (rd_eql rfl rfl) <| gl_op <| op_rd rfl (rd_assign rfl) <| gl_nil <| gx_then <| gc_ret ?_
  refine gx_ret1 (.inl rfl) Try.results16 rfl [] (by decide) ?_
  exact ⟨congrArg Value.bool (decide_eq_true rfl), rfl⟩
set_option maxRecDepth 100000 in
set_option maxHeartbeats 1000000 in
theorem SameInts_ok (qa : Option Addr) (ca : Nat) (qb : Option Addr) (cb : Nat) (g : List Int) (hgl : g.length ≤ 140737488355328) (w0 : World) (hA : OldSl w0 [] qa g.length 1 (g.map intV)) (hB : OldSl w0 [] qb g.length 1 (g.map intV)) : Sp Try.prog 17 [.slice qa g.length ca, .slice qb g.length cb] w0 [] (RV (.bool true)) := by
  refine spec_enter Try.func17 rfl Try.ntmps17 rfl (Own.refl _) ?_
  simp only [argEnv]
  refine gc_seq <| gc_region <| gl_op <| op_rd rfl (rd_assign rfl) <| gl_nil <| gx_then <| gc_seq <| gc_seq <| gc_region <| gl_op <| op_rd rfl (rd_assign rfl) <| gl_nil <| gx_then <| gc_block <| gc_loopF (ι := Nat) [(0, _), (1, _)] [] (fun k => k ≤ g.length) (fun k Fr0 => ((5, natV k) :: Fr0)) (fun k Fr0 => Fr0) (fun k => g.length - k) 0 (Nat.zero_le _) ⟨rfl, rfl, rfl, trivial⟩ ⟨[], by decide, rfl⟩ ?_
  rintro k hk
  refine gc_seq <| gc_seq <| gc_region <| gl_op <| op_rd rfl (rd_move rfl) <| gl_op <| op_rd rfl (rd_move rfl) <| gl_op <| op_rd rfl (rd_lenSlice Try.underlying29 rfl) <| gl_op (op_rd rfl (rd_lss rfl rfl) (gk_dec (fun h9 => ?_) (fun h9 => ?_)))
  · refine gl_op <| op_rd rfl (rd_move rfl) <| gl_yes rfl rfl <| op_rd rfl (rd_move rfl) <| gl_yes rfl rfl <| op_rd rfl (rd_move rfl) <| gl_yes rfl rfl <| op_rd rfl (rd_lenSlice Try.underlying29 rfl) <| gl_yes rfl rfl (op_rd rfl (rd_lss rfl rfl) (gk_dec (fun h14 => ?_) (fun h14 => ?_)))
    · obtain ⟨x, hx⟩ := get_some (show k < g.length by omega)
      refine gl_op <| op_rd rfl (rd_pick_t rfl rfl) <| gl_nil <| gx_then <| gc_cond_t rfl <| gc_skip <| gx_then <| gc_seq <| gc_block <| gc_seq <| gc_drawP [] true 8 rfl <| ga_first 0 (bm 9 1) rfl rfl rfl rfl (by kernel_rfl) (by kernel_rfl) ⟨[], by decide, rfl⟩ (qt_rd (rd_move rfl)) ?_
      refine ga_first 1 (bm 9 3) rfl rfl rfl rfl (by kernel_rfl) (by kernel_rfl) ⟨[], by decide, rfl⟩ (qt_rd (rd_move rfl)) ?_
      refine ga_first 2 (bm 9 7) rfl rfl rfl rfl (by kernel_rfl) (by kernel_rfl) ⟨[], by decide, rfl⟩ (qt_rd (rd_indexOld1 hA Try.underlying29 ty_3 rfl rfl (by omega) (by omega))) ?_
      refine ga_first 3 (bm 9 15) rfl rfl rfl rfl (by kernel_rfl) (by kernel_rfl) ⟨[], by decide, rfl⟩ (qt_rd (rd_load Try.underlying3 rfl rfl (ld_slN hA (get_intL hx)))) ?_
      refine ga_first 4 (bm 9 31) rfl rfl rfl rfl (by kernel_rfl) (by kernel_rfl) ⟨[], by decide, rfl⟩ (qt_rd (rd_move rfl)) ?_
      refine ga_first 5 (bm 9 63) rfl rfl rfl rfl (by kernel_rfl) (by kernel_rfl) ⟨[], by decide, rfl⟩ (qt_rd (rd_move rfl)) ?_
      refine ga_first 6 (bm 9 127) rfl rfl rfl rfl (by kernel_rfl) (by kernel_rfl) ⟨[], by decide, rfl⟩ (qt_rd (rd_indexOld1 hB Try.underlying29 ty_3 rfl rfl (by omega) (by omega))) ?_
      refine ga_first 7 (bm 9 255) rfl rfl rfl rfl (by kernel_rfl) (by kernel_rfl) ⟨[], by decide, rfl⟩ (qt_rd (rd_load Try.underlying3 rfl rfl (ld_slN hB (get_intL hx)))) ?_
      refine ga_first 8 (bm 9 511) rfl rfl rfl rfl (by kernel_rfl) (by kernel_rfl) ⟨[], by decide, rfl⟩ (qt_rd (rd_neq rfl rfl)) (gk_dec (fun h26 => ?_) (fun h26 => ?_))
      · exact absurd rfl h26
      refine ga_end (by kernel_rfl) (.inr ⟨[], by decide, rfl⟩) ?_
      refine gx_then <| gc_cond_f rfl <| gc_skip <| gx_block <| gx_then <| gc_region <| gl_op <| op_rd rfl (rd_move rfl) <| gl_op (op_rd rfl (by exact rd_addN (b := 1) rfl rfl (by omega)) ?_)
      refine gl_op <| op_rd rfl (rd_assign rfl) <| gl_nil <| gx_then ?_
      exact gx_cut (k + 1) ⟨by omega, by omega⟩ ⟨rfl, rfl, rfl, trivial⟩ ⟨[], by decide, rfl⟩
    refine gl_op <| op_rd rfl (rd_pick_t rfl rfl) <| gl_nil <| gx_then <| gc_cond_f rfl <| gc_exit <| gx_then_exit <| gx_then_exit <| gx_block_exit <| gx_then <| gc_seq <| gc_region <| gl_op <| op_rd rfl (rd_move rfl) <| gl_op <| op_rd rfl (rd_lenSlice Try.underlying29 rfl) <| gl_op <| op_rd rfl (rd_move rfl) <| gl_op <| op_rd rfl (rd_lenSlice Try.underlying29 rfl) <| gl_op <| op_rd rfl (rd_eql rfl rfl) <| gl_op <| op_rd rfl (rd_assign rfl) <| gl_nil <| gx_then <| gc_ret <| gx_ret1 (.inl rfl) Try.results17 rfl [] (by decide) ?_
    exact ⟨congrArg Value.bool (decide_eq_true rfl), rfl⟩
  refine gl_op <| op_rd rfl (rd_move rfl) <| gl_no rfl rfl rfl <| gl_no rfl rfl rfl <| gl_no rfl rfl rfl <| gl_no rfl rfl rfl <| gl_op <| op_rd rfl (rd_pick_f rfl rfl) <| gl_nil <| gx_then <| gc_cond_f rfl <| gc_exit <| gx_then_exit <| gx_then_exit <| gx_block_exit <| gx_then <| gc_seq <| gc_region <| gl_op <| op_rd rfl (rd_move rfl) <| gl_op <| op_rd rfl (rd_lenSlice Try.underlying29 rfl) <| gl_op <| op_rd rfl (rd_move rfl) <| gl_op <| op_rd rfl (rd_lenSlice Try.underlying29 rfl) <| gl_op <| op_rd rfl (rd_eql rfl rfl) <| gl_op <| op_rd rfl (rd_assign rfl) <| gl_nil <| gx_then <| gc_ret ?_
  refine gx_ret1 (.inl rfl) Try.results17 rfl [] (by decide) ?_
  exact ⟨congrArg Value.bool (decide_eq_true rfl), rfl⟩
set_option maxRecDepth 100000 in
set_option maxHeartbeats 1000000 in
theorem nan_ok (t : Int) (w0 : World) : Sp Try.prog 76 [.int .i64 t] w0 [] (RV (.bool false)) := by
  refine spec_enter Try.func76 rfl Try.ntmps76 rfl (Own.refl _) ?_
  simp only [argEnv]
  refine gc_seq <| gc_region <| gl_op <| op_rd rfl (rd_assign rfl) <| gl_nil <| gx_then <| gc_seq <| gc_region <| gl_op <| op_rd rfl (rd_move rfl) <| gl_op <| op_rd rfl (rd_move rfl) <| gl_op <| op_rd rfl (rd_neq rfl rfl) <| gl_op <| op_rd rfl (rd_assign rfl) <| gl_nil <| gx_then <| gc_ret <| gx_ret1 (.inl rfl) Try.results76 rfl [] (by decide) ?_
  exact ⟨congrArg Value.bool (decide_eq_false (fun h => h rfl)), rfl⟩
set_option maxRecDepth 100000 in
set_option maxHeartbeats 1000000 in
theorem cmp_ok (t u : Int) (w0 : World) : Sp Try.prog 70 [.int .i64 t, .int .i64 u] w0 [] (fun v L => ∃ r : Int, v = .int .i64 r ∧ L = [] ∧ (r < 0 ↔ t < u) ∧ (r = 0 ↔ t = u)) := by
  refine spec_enter Try.func70 rfl Try.ntmps70 rfl (Own.refl _) ?_
  simp only [argEnv]
  refine gc_seq <| gc_region <| gl_op <| op_rd rfl (rd_assign rfl) <| gl_nil <| gx_then <| gc_seq <| gc_region <| gl_op <| op_rd rfl (rd_move rfl) <| gl_op (op_call rfl (vf := []) (vc := []) rfl rfl Try.call76 (fun w1 ho => nan_ok t w1) ?_)
  rintro _ _ ⟨rfl, rfl⟩
  refine gl_op <| op_rd rfl (rd_assign rfl) <| gl_nil <| gx_then <| gc_seq <| gc_region <| gl_op <| op_rd rfl (rd_move rfl) <| gl_op (op_call rfl (vf := []) (vc := []) rfl rfl Try.call76 (fun w1 ho => nan_ok u w1) ?_)
  rintro _ _ ⟨rfl, rfl⟩
  refine gl_op <| op_rd rfl (rd_assign rfl) <| gl_nil <| gx_then <| gc_seq <| gc_seq <| gc_region <| gl_op <| op_rd rfl (rd_move rfl) <| gl_nil <| gx_then <| gc_cond_f rfl <| gc_skip <| gx_then <| gc_seq <| gc_seq <| gc_region <| gl_op <| op_rd rfl (rd_move rfl) <| gl_nil <| gx_then <| gc_cond_f rfl <| gc_skip <| gx_then <| gc_seq <| gc_seq <| gc_region <| gl_op <| op_rd rfl (rd_move rfl) ?_
  refine gl_op <| op_rd rfl (rd_move rfl) <| gl_op (op_rd rfl (rd_lss rfl rfl) (gk_dec (fun h16 => ?_) (fun h16 => ?_)))
  · refine gl_nil <| gx_then <| gc_cond_t rfl <| gc_seq <| gc_region <| gl_op <| op_rd rfl (rd_assign rfl) <| gl_nil <| gx_then <| gc_ret <| gx_then_ret <| gx_ret1 (.inl rfl) Try.results70 rfl [] (by decide) ?_
    exact ⟨_, rfl, rfl, by omega, by omega⟩
  refine gl_nil <| gx_then <| gc_cond_f rfl <| gc_skip <| gx_then <| gc_seq <| gc_seq <| gc_region <| gl_op <| op_rd rfl (rd_move rfl) <| gl_op <| op_rd rfl (rd_move rfl) <| gl_op (op_rd rfl (rd_gtr rfl rfl) (gk_dec (fun h19 => ?_) (fun h19 => ?_)))
  · refine gl_nil <| gx_then <| gc_cond_t rfl <| gc_seq <| gc_region <| gl_op <| op_rd rfl (rd_assign rfl) <| gl_nil <| gx_then <| gc_ret <| gx_then_ret <| gx_ret1 (.inl rfl) Try.results70 rfl [] (by decide) ?_
    exact ⟨_, rfl, rfl, by omega, by omega⟩
  refine gl_nil <| gx_then <| gc_cond_f rfl <| gc_skip <| gx_then <| gc_seq <| gc_region <| gl_op <| op_rd rfl (rd_assign rfl) <| gl_nil <| gx_then <| gc_ret <| gx_ret1 (.inl rfl) Try.results70 rfl [] (by decide) ?_
  exact ⟨_, rfl, rfl, by omega, by omega⟩
set_option maxRecDepth 100000 in
set_option maxHeartbeats 1000000 in
theorem Compare_ok (qa : Option Addr) (ca : Nat) (qb : Option Addr) (cb : Nat) (g h : List Int) (hgl : g.length ≤ 140737488355328) (hhl : h.length ≤ 140737488355328) (hlen : g.length = h.length) (w0 : World) (hA : OldSl w0 [] qa g.length 1 (g.map intV)) (hB : OldSl w0 [] qb h.length 1 (h.map intV)) : Sp Try.prog 57 [.slice qa g.length ca, .slice qb h.length cb] w0 [] (fun v L => ∃ r : Int, v = .int .i64 r ∧ L = [] ∧ (r < 0 ↔ lexI g h = true)) := by
  refine spec_enter Try.func57 rfl Try.ntmps57 rfl (Own.refl _) ?_
  simp only [argEnv]
  refine gc_seq <| gc_region <| gl_op <| op_rd rfl (rd_assign rfl) <| gl_nil <| gx_then <| gc_seq <| gc_seq <| gc_region <| gl_op <| op_rd rfl (rd_move rfl) <| gl_op <| op_rd rfl (rd_lenSlice Try.underlying25 rfl) <| gl_op <| op_rd rfl (rd_move rfl) <| gl_nil <| gx_then <| gc_block <| gc_loopF (ι := Nat) [(0, _), (1, _), (9, _), (10, _)] [] (fun k => k ≤ g.length ∧ lexI g h = lexI (g.drop k) (h.drop k)) (fun k Fr0 => ((11, natV k) :: Fr0)) (fun k Fr0 => Fr0) (fun k => g.length - k) 0 (⟨Nat.zero_le _, rfl⟩) ⟨rfl, rfl, rfl, rfl, rfl, trivial⟩ ⟨[], by decide, rfl⟩ ?_
  rintro k ⟨hk, hle⟩
  refine gc_seq <| gc_region <| gl_op (op_rd rfl (rd_lss rfl rfl) (gk_dec (fun h12 => ?_) (fun h12 => ?_)))
  · obtain ⟨x, hx⟩ := get_some (show k < g.length by omega)
    obtain ⟨y, hy⟩ := get_some (show k < h.length by omega)
    refine gl_nil <| gx_then <| gc_seq <| gc_cond_t rfl <| gc_skip <| gx_then <| gc_seq <| gc_block <| gc_seq <| gc_region <| gl_op <| op_rd rfl (rd_move rfl) <| gl_op (op_rd rfl (rd_indexOld1 hA Try.underlying25 ty_2 rfl rfl (by omega) (by omega)) ?_)
    refine gl_op <| op_rd rfl (rd_load Try.underlying2 rfl rfl (ld_slN hA (get_intL hx))) <| gl_op <| op_rd rfl (rd_assign rfl) <| gl_op <| op_rd rfl (rd_assign rfl) <| gl_nil <| gx_then <| gc_seq <| gc_seq <| gc_region <| gl_op <| op_rd rfl (rd_move rfl) <| gl_op <| op_rd rfl (rd_move rfl) <| gl_op <| op_rd rfl (rd_lenSlice Try.underlying25 rfl) <| gl_op (op_rd rfl (rd_geq rfl rfl) (gk_dec (fun h19 => ?_) (fun h19 => ?_)))
    · omega
    refine gl_nil <| gx_then <| gc_cond_f rfl <| gc_skip <| gx_then <| gc_seq <| gc_region <| gl_op <| op_rd rfl (rd_move rfl) <| gl_op <| op_rd rfl (rd_move rfl) <| gl_op (op_rd rfl (rd_indexOld1 hB Try.underlying25 ty_2 rfl rfl (by omega) (by omega)) ?_)
    refine gl_op <| op_rd rfl (rd_load Try.underlying2 rfl rfl (ld_slN hB (get_intL hy))) <| gl_op <| op_rd rfl (rd_assign rfl) <| gl_nil <| gx_then <| gc_seq <| gc_region <| gl_op <| op_rd rfl (rd_move rfl) <| gl_op <| op_rd rfl (rd_move rfl) <| gl_op (op_call rfl (vf := []) (vc := []) rfl rfl Try.call70 (fun w1 ho => cmp_ok x y w1) ?_)
    rintro _ _ ⟨r26, rfl, rfl, hr1, hr2⟩
    refine gl_op <| op_rd rfl (rd_assign rfl) <| gl_nil <| gx_then <| gc_seq <| gc_region <| gl_op <| op_rd rfl (rd_move rfl) <| gl_op (op_rd rfl (rd_neq rfl rfl) (gk_dec (fun h28 => ?_) (fun h28 => ?_)))
    · refine gl_nil <| gx_then <| gc_cond_t rfl <| gc_seq <| gc_region <| gl_op <| op_rd rfl (rd_move rfl) <| gl_op <| op_rd rfl (rd_assign rfl) <| gl_nil <| gx_then <| gc_ret <| gx_block_ret <| gx_then_ret <| gx_then_ret <| gx_block_ret <| gx_then_ret <| gx_ret1 (.inl rfl) Try.results57 rfl [] (by decide) ?_
      refine ⟨r26, rfl, rfl, ?_⟩
      rw [hle, lex_step hx hy, if_neg (fun e => by omega), decide_eq_true_eq]
      exact hr1
    refine gl_nil <| gx_then <| gc_cond_f rfl <| gc_skip <| gx_block <| gx_then <| gc_region <| gl_op (op_rd rfl (by exact rd_addN (b := 1) rfl rfl (by omega)) ?_)
    refine gl_op <| op_rd rfl (rd_move rfl) <| gl_nil <| gx_then ?_
    exact gx_cut (k + 1) ⟨⟨by omega, by rw [hle, lex_step hx hy, if_pos (by omega)]⟩, by omega⟩ ⟨rfl, rfl, rfl, rfl, rfl, trivial⟩ ⟨[], by decide, rfl⟩
  refine gl_nil <| gx_then <| gc_seq <| gc_cond_f rfl <| gc_exit <| gx_then_exit <| gx_then_exit <| gx_block_exit <| gx_then <| gc_seq <| gc_seq <| gc_region <| gl_op <| op_rd rfl (rd_move rfl) <| gl_op <| op_rd rfl (rd_lenSlice Try.underlying25 rfl) <| gl_op <| op_rd rfl (rd_move rfl) <| gl_op <| op_rd rfl (rd_lenSlice Try.underlying25 rfl) <| gl_op (op_rd rfl (rd_lss rfl rfl) (gk_dec (fun h35 => ?_) (fun h35 => ?_)))
  · omega
  refine gl_nil <| gx_then <| gc_cond_f rfl <| gc_skip <| gx_then <| gc_seq <| gc_region <| gl_op <| op_rd rfl (rd_assign rfl) <| gl_nil <| gx_then <| gc_ret <| gx_ret1 (.inl rfl) Try.results57 rfl [] (by decide) ?_
  refine ⟨0, rfl, rfl, ?_⟩
  rw [hle, lex_end (by omega)]
  simp
end Go.Proofs.Ytafmcflggikbfaa
namespace Go.Proofs.Ytafmcflggikbfaa
open Go.Gv
open Go.RowKit
open Go.Sn
open Go.Wk
open Sx
namespace Sx
theorem eg_25 : Try.prog.eqGuardType Try.prog.depth 25 = false := by kernel_rfl
def bl (b : Option (List Nat)) : List Nat := b.getD []
/-- the best list so far in memory -/
def BestOk (b : Option (List Nat)) (rb : Option Nat) (cb n : Nat) : Prop := match b with
  | none => rb = none ∧ cb = 0
  | some g => (n ≠ 0 → rb.isSome = true) ∧ g.length = n ∧ ∀ t ∈ g, t ≤ 100000
def srR (b : Option (List Nat)) (rb : Option Nat) (cb : Nat) : HL := .row 2 1 rb (bl b).length cb ((bl b).map natV)
theorem JnIn.outB {w0 w : World} {S : List Nat} {a : Option Addr} {l : List Jb} {B : List HL} (h : JnIn a l w0 S) (ho : Own w0 S w B) (ic : List Nat) : JnIn a l w ((pick ic B).filterMap HL.block) := ⟨slOutB ho h.t (by decide) ic, fun x hx => slOutB ho (h.r x hx) (by decide) ic⟩
theorem Own.rowSome {w0 w : World} {S : List Nat} {L : List HL} (ho : Own w0 S w L) (i : Nat) {E : TypeId} {sz m cap : Nat} {r : Option Nat} {xs : List Value} (hi : L[i]? = some (.row E sz r m cap xs)) : m ≠ 0 → r.isSome = true := fun hm => by
  have h := ho.holds _ (List.mem_of_getElem? hi)
  cases r with
  | none => exact absurd h.2.1 hm
  | some k => rfl
theorem best_cases {b : Option (List Nat)} {rb : Option Nat} {cb n : Nat} (h : BestOk b rb cb n) (h0 : b = none ∨ n ≠ 0) : (b = none ∧ rb = none ∧ cb = 0) ∨ ∃ g k, b = some g ∧ rb = some k ∧ g.length = n ∧ ∀ t ∈ g, t ≤ 100000 := by
  cases b with
  | none => exact .inl ⟨rfl, h.1, h.2⟩
  | some g =>
    rcases h0 with h0 | h0
    · cases h0
    · obtain ⟨k, hk⟩ := Option.isSome_iff_exists.1 (h.1 h0)
      exact .inr ⟨g, k, rfl, hk, h.2.1, h.2.2⟩
theorem atN_bd {l : List Jb} {r : Nat} {p : Plc} (h : PlOk l r p) (h7 : l.length ≤ 7) (j : Nat) : atN p j ≤ 100000 := by
  cases hp : plB p j with
  | false => rw [h.zero j hp]; omega
  | true =>
    have hj : j < l.length := by
      apply Classical.byContradiction
      intro hno
      rw [plB_out h.li (by omega)] at hp; cases hp
    have h1 := le_soP hj hp
    have h2 := h.bd
    unfold endP1 at h1
    omega
def accQ (shop : List Int) (l : List Jb) (r : Nat) (p : Plc) (b : Option (List Nat)) (k : Nat) : Option (List Nat) := (leavesI shop l r p k).foldl (upd l) b
theorem accQ_yes {shop : List Int} {l : List Jb} {r : Nat} {p : Plc} {b : Option (List Nat)} {k : Nat} (h : readyB l p k = true) : (leaves shop l r (nextP shop l p k)).foldl (upd l) (accQ shop l r p b k) = accQ shop l r p b (k + 1) := by
  unfold accQ; rw [leavesI_yes h, List.foldl_append]
theorem accQ_no {shop : List Int} {l : List Jb} {r : Nat} {p : Plc} {b : Option (List Nat)} {k : Nat} (h : readyB l p k = false) : accQ shop l r p b (k + 1) = accQ shop l r p b k := by
  unfold accQ; rw [leavesI_no h]
end Sx
open Sx
end Go.Proofs.Ytafmcflggikbfaa
namespace Go.Proofs.Ytafmcflggikbfaa
open Go.Gv
open Go.RowKit
open Go.Sn
open Go.Wk
open Sx
namespace Sx
def benS (shop : List Int) (n : List Jb) : Bool := n.any fun x => decide (shop.length ≤ x.bench)
def planE (shop : List Int) (l : List JI) : Int :=
  if checkE l ≠ 0 then checkE l else if 7 < l.length then 3 else if shopB shop = false then 2 else if benS shop (nOf l) = true then 4 else 0
def PlanR (t : TypeId) (shop : List Int) (l : List JI) (v : Value) (L : List HL) : Prop :=
  (planE shop l ≠ 0 ∧ v = .tuple #[.slice none 0 0, .int .i64 0, .int .i64 (planE shop l)] ∧ L = []) ∨
  (planE shop l = 0 ∧ ∃ (g : List Nat) (r : Option Nat) (c : Nat), planO shop (nOf l) = some g ∧ v = .tuple #[.slice (rowA r) g.length c, natV (endF (nOf l) g), .int .i64 0] ∧ L = [.row t 1 r g.length c (g.map natV)])
theorem p0_atC (n : List Jb) : (p0 n).at_.map natV = List.replicate n.length (.int .i64 0) := by simp [p0]
theorem p0_isC (n : List Jb) : (p0 n).is.map boolV = List.replicate n.length (.bool false) := by simp [p0]
theorem planE_0 {shop : List Int} {l : List JI} (h1 : checkE l = 0) (h2 : l.length ≤ 7) (h3 : shopB shop = true) (h4 : benS shop (nOf l) = false) : planE shop l = 0 := by
  unfold planE; rw [if_neg (by omega), if_neg (by omega), if_neg (by rw [h3]; simp), if_neg (by rw [h4]; simp)]
theorem planE_4 {shop : List Int} {l : List JI} (h1 : checkE l = 0) (h2 : l.length ≤ 7) (h3 : shopB shop = true) (h4 : benS shop (nOf l) = true) : planE shop l = 4 := by
  unfold planE; rw [if_neg (by omega), if_neg (by omega), if_neg (by rw [h3]; simp), if_pos h4]
theorem planE_2 {shop : List Int} {l : List JI} (h1 : checkE l = 0) (h2 : l.length ≤ 7) (h3 : shopB shop = false) : planE shop l = 2 := by
  unfold planE; rw [if_neg (by omega), if_neg (by omega), if_pos h3]
theorem planE_3 {shop : List Int} {l : List JI} (h1 : checkE l = 0) (h2 : 7 < l.length) : planE shop l = 3 := by
  unfold planE; rw [if_neg (by omega), if_pos h2]
theorem planE_c {shop : List Int} {l : List JI} (h1 : checkE l ≠ 0) : planE shop l = checkE l := by
  unfold planE; rw [if_pos h1]
end Sx
open Sx
end Go.Proofs.Ytafmcflggikbfaa
namespace Go.Proofs.Ytafmcflggikbfaa
open Go.Gv
open Go.RowKit
open Go.Sn
open Go.Wk
open Sx
namespace Sx
theorem perm_sorted_eq : ∀ {a b : List Nat}, a.Perm b → a.Pairwise (· ≤ ·) → b.Pairwise (· ≤ ·) → a = b
  | [], b, h, _, _ => by rw [List.nil_perm.1 h]
  | x :: xs, [], h, _, _ => by have := h.length_eq; simp at this
  | x :: xs, y :: ys, h, ha, hb => by
    have h1 : x ≤ y := by
      have : y ∈ x :: xs := h.mem_iff.2 List.mem_cons_self
      rcases List.mem_cons.1 this with e | e
      · omega
      · exact (List.pairwise_cons.1 ha).1 y e
    have h2 : y ≤ x := by
      have : x ∈ y :: ys := h.mem_iff.1 List.mem_cons_self
      rcases List.mem_cons.1 this with e | e
      · omega
      · exact (List.pairwise_cons.1 hb).1 x e
    have e : x = y := by omega
    subst e
    rw [perm_sorted_eq h.cons_inv (List.pairwise_cons.1 ha).2 (List.pairwise_cons.1 hb).2]
def srt (ts : List Nat) : List Nat := ts.mergeSort (fun a b => decide (a ≤ b))
theorem srt_perm (ts : List Nat) : (srt ts).Perm ts := List.mergeSort_perm ts _
theorem srt_sorted (ts : List Nat) : (srt ts).Pairwise (· ≤ ·) := by
  have := List.pairwise_mergeSort (le := fun a b : Nat => decide (a ≤ b)) (fun a b c h1 h2 => by simp at *; omega) (fun a b => by simp; omega) ts
  refine List.Pairwise.imp ?_ this
  intro a b h
  simpa using h
theorem srt_eq {ts xs : List Nat} (h : xs.Perm ts) (hs : xs.Pairwise (· ≤ ·)) : xs = srt ts := perm_sorted_eq (h.trans (srt_perm ts).symm) hs (srt_sorted ts)
theorem srt_len (ts : List Nat) : (srt ts).length = ts.length := (srt_perm ts).length_eq
/-- a round of the insertion sort: the list with the element x at place j of the first ones, pre -/
def insJ (pre rest : List Nat) (x j : Nat) : List Nat := pre.take j ++ x :: (pre.drop j ++ rest)
theorem insJ_len (pre rest : List Nat) (x j : Nat) : (insJ pre rest x j).length = pre.length + 1 + rest.length := by
  unfold insJ
  simp only [List.length_append, List.length_take, List.length_cons, List.length_drop]
  omega
theorem insJ_start (xs : List Nat) {i x : Nat} (h : xs[i]? = some x) : insJ (xs.take i) (xs.drop (i + 1)) x (xs.take i).length = xs := by
  unfold insJ
  rw [List.take_length, List.drop_length, List.nil_append]
  have := drop_at h
  rw [← this, List.take_append_drop]
theorem insJ_perm (pre rest : List Nat) (x j : Nat) : (insJ pre rest x j).Perm (pre ++ x :: rest) := by
  unfold insJ
  have h1 : (pre.take j ++ x :: (pre.drop j ++ rest)).Perm (x :: (pre.take j ++ (pre.drop j ++ rest))) := List.perm_middle
  refine h1.trans ?_
  rw [← List.append_assoc, List.take_append_drop]
  exact List.perm_middle.symm
theorem insJ_at {pre rest : List Nat} {x j : Nat} (hj : j ≤ pre.length) : (insJ pre rest x j)[j]? = some x := by
  unfold insJ
  rw [List.getElem?_append_right (by rw [List.length_take]; omega), List.length_take, Nat.min_eq_left hj, Nat.sub_self]; rfl
theorem insJ_before {pre rest : List Nat} {x j y : Nat} (hj : j < pre.length) (hy : pre[j]? = some y) : (insJ pre rest x (j + 1))[j]? = some y := by
  unfold insJ
  rw [List.getElem?_append_left (by rw [List.length_take]; omega), List.getElem?_take, if_pos (by omega)]; exact hy
theorem insJ_swap {pre rest : List Nat} {x j y : Nat} (hj : j < pre.length) (hy : pre[j]? = some y) : ((insJ pre rest x (j + 1)).set (j + 1) y).set j x = insJ pre rest x j := by
  apply List.ext_getElem?
  intro q
  have e1 : ∀ q, (insJ pre rest x (j + 1))[q]? = if q ≤ j then pre[q]? else if q = j + 1 then some x else (pre.drop (j + 1) ++ rest)[q - (j + 2)]? := fun q => by
    unfold insJ
    rw [List.getElem?_append, List.length_take, Nat.min_eq_left (by omega)]
    by_cases h : q < j + 1
    · rw [if_pos h, if_pos (by omega), List.getElem?_take, if_pos h]
    · rw [if_neg h, if_neg (by omega)]
      by_cases h2 : q = j + 1
      · rw [if_pos h2, h2, Nat.sub_self]; rfl
      · rw [if_neg h2, show q - (j + 1) = (q - (j + 2)) + 1 by omega, List.getElem?_cons_succ]
  have e2 : ∀ q, (insJ pre rest x j)[q]? = if q < j then pre[q]? else if q = j then some x else (pre.drop j ++ rest)[q - (j + 1)]? := fun q => by
    unfold insJ
    rw [List.getElem?_append, List.length_take, Nat.min_eq_left (by omega)]
    by_cases h : q < j
    · rw [if_pos h, if_pos h, List.getElem?_take, if_pos h]
    · rw [if_neg h, if_neg h]
      by_cases h2 : q = j
      · rw [if_pos h2, h2, Nat.sub_self]; rfl
      · rw [if_neg h2, show q - j = (q - (j + 1)) + 1 by omega, List.getElem?_cons_succ]
  have hl := insJ_len pre rest x (j + 1)
  rw [List.getElem?_set, List.getElem?_set, List.length_set, hl, e1, e2]
  by_cases h1 : j = q
  · rw [if_pos h1, if_pos (by omega), if_neg (by omega), if_pos h1.symm]
  · rw [if_neg h1]
    by_cases h2 : j + 1 = q
    · subst h2
      rw [if_pos rfl, if_pos (by omega), if_neg (by omega), if_neg (by omega), Nat.sub_self, drop_at hy]; rfl
    · rw [if_neg h2]
      by_cases h3 : q < j
      · rw [if_pos (by omega), if_pos h3]
      · rw [if_neg (by omega), if_neg (by omega), if_neg h3, if_neg (by omega), drop_at hy, List.cons_append, show q - (j + 1) = (q - (j + 2)) + 1 by omega, List.getElem?_cons_succ]
theorem insJ_sorted {pre rest : List Nat} {x j : Nat} (hp : pre.Pairwise (· ≤ ·)) (hj : j ≤ pre.length) (h1 : ∀ y ∈ pre.drop j, x ≤ y) (h2 : ∀ y ∈ pre.take j, y ≤ x) : ((insJ pre rest x j).take (pre.length + 1)).Pairwise (· ≤ ·) := by
  have e : (insJ pre rest x j).take (pre.length + 1) = pre.take j ++ x :: pre.drop j := by
    unfold insJ
    rw [show pre.take j ++ x :: (pre.drop j ++ rest) = (pre.take j ++ x :: pre.drop j) ++ rest by simp]
    rw [List.take_append_of_le_length (by simp only [List.length_append, List.length_take, List.length_cons, List.length_drop]; omega)]
    rw [List.take_of_length_le (by simp only [List.length_append, List.length_take, List.length_cons, List.length_drop]; omega)]
  rw [e]
  have h0 : (pre.take j ++ pre.drop j).Pairwise (· ≤ ·) := by rw [List.take_append_drop]; exact hp
  rw [List.pairwise_append] at h0 ⊢
  refine ⟨h0.1, List.pairwise_cons.2 ⟨h1, h0.2.1⟩, fun a ha b hb => ?_⟩
  rcases List.mem_cons.1 hb with rfl | hb
  · exact h2 a ha
  · exact h0.2.2 a ha b hb
theorem take_le_last {pre : List Nat} {j y : Nat} (hp : pre.Pairwise (· ≤ ·)) (hy : pre[j]? = some y) : ∀ z ∈ pre.take (j + 1), z ≤ y := fun z hz => by
  rw [take_at hy] at hz
  rcases List.mem_append.1 hz with hz | hz
  · have h0 : (pre.take j ++ pre.drop j).Pairwise (· ≤ ·) := by rw [List.take_append_drop]; exact hp
    rw [drop_at hy] at h0
    exact (List.pairwise_append.1 h0).2.2 z hz y List.mem_cons_self
  · rw [List.mem_singleton.1 hz]; exact Nat.le_refl _
theorem get_nat {xs : List Nat} {k x : Nat} (h : xs[k]? = some x) : (xs.map natV)[k]? = some (natV x) := by rw [List.getElem?_map, h]; rfl
theorem ba_get {s : ByteArray} {n : Nat} (h : n < s.size) : ∃ b, s[n]? = some b := ⟨s[n], getElem?_pos s n h⟩
theorem wrap8_ok {n : Nat} (h : n ≤ 100) : IntKind.wrap .u8 (n : Int) = (n : Int) := by
  simp [IntKind.wrap, IntKind.bits, IntKind.signed]
  omega
theorem one_sorted (ts : List Nat) : (ts.take 1).Pairwise (· ≤ ·) := by
  cases ts with
  | nil => simp
  | cons a l => simp
end Sx
open Sx
set_option maxRecDepth 100000 in
set_option maxHeartbeats 1000000 in
theorem isNaN_ok (x : Nat) (w0 : World) : Sp Try.prog 76 [natV x] w0 [] (RV (.bool false)) := by
  refine spec_enter Try.func76 rfl Try.ntmps76 rfl (Own.refl _) ?_
  simp only [argEnv]
  refine gc_seq <| gc_region <| gl_op <| op_rd rfl (rd_assign rfl) <| gl_nil <| gx_then <| gc_seq <| gc_region <| gl_op <| op_rd rfl (rd_move rfl) <| gl_op <| op_rd rfl (rd_move rfl) <| gl_op <| op_rd rfl (rd_neq rfl rfl) <| gl_op <| op_rd rfl (rd_assign rfl) <| gl_nil <| gx_then <| gc_ret <| gx_ret1 (.inl rfl) Try.results76 rfl [] (by decide) ?_
  refine ⟨congrArg Value.bool (decide_eq_false (by simp)), rfl⟩
set_option maxRecDepth 100000 in
set_option maxHeartbeats 1000000 in
theorem less64_ok (x y : Nat) (w0 : World) : Sp Try.prog 85 [natV x, natV y] w0 [] (RV (.bool (decide (x < y)))) := by
  refine spec_enter Try.func85 rfl Try.ntmps85 rfl (Own.refl _) ?_
  simp only [argEnv]
  refine gc_seq <| gc_region <| gl_op <| op_rd rfl (rd_assign rfl) <| gl_nil <| gx_then <| gc_seq <| gc_region <| gl_op <| op_rd rfl (rd_move rfl) <| gl_op (op_call rfl (vf := []) (vc := []) rfl rfl Try.call76 (fun w1 ho => isNaN_ok x w1) ?_)
  rintro _ _ ⟨rfl, rfl⟩
  refine gl_op <| op_rd rfl (rd_move rfl) <| gl_no rfl rfl rfl <| gl_no rfl rfl rfl <| gl_no rfl rfl rfl <| gl_op <| op_rd rfl (rd_pick_f rfl rfl) <| gl_op <| op_rd rfl (rd_move rfl) <| gl_yes rfl rfl <| op_rd rfl (rd_move rfl) <| gl_yes rfl rfl <| op_rd rfl (rd_move rfl) <| gl_yes rfl rfl <| op_rd rfl (rd_lss rfl rfl) <| gl_op <| op_rd rfl (rd_pick_f rfl rfl) <| gl_op <| op_rd rfl (rd_assign rfl) <| gl_nil <| gx_then <| gc_ret <| gx_ret1 (.inl rfl) Try.results85 rfl [] (by decide) ?_
  refine ⟨congrArg Value.bool ?_, rfl⟩
  rw [decide_eq_decide]; omega
set_option maxRecDepth 100000 in
set_option maxHeartbeats 1000000 in
theorem len64_ok (n : Nat) (hn : n ≤ 100) (w0 : World) : Sp Try.prog 89 [.int .u64 (n : Int)] w0 [] (fun v L => ∃ r : Nat, v = natV r ∧ L = []) := by
  refine spec_enter Try.func89 rfl Try.ntmps89 rfl (Own.refl _) ?_
  simp only [argEnv]
  refine gc_seq <| gc_region <| gl_op <| op_rd rfl (rd_assign rfl) <| gl_nil <| gx_then <| gc_seq <| gc_seq <| gc_region <| gl_op <| op_rd rfl (rd_move rfl) <| gl_op (op_rd rfl (rd_geq rfl rfl) (gk_dec (fun h4 => ?_) (fun h4 => ?_)))
  · exfalso; omega
  refine gl_nil <| gx_then <| gc_cond_f rfl <| gc_skip <| gx_then <| gc_seq <| gc_seq <| gc_region <| gl_op <| op_rd rfl (rd_move rfl) <| gl_op (op_rd rfl (rd_geq rfl rfl) (gk_dec (fun h8 => ?_) (fun h8 => ?_)))
  · exfalso; omega
  refine gl_nil <| gx_then <| gc_cond_f rfl <| gc_skip <| gx_then <| gc_seq <| gc_seq <| gc_region <| gl_op <| op_rd rfl (rd_move rfl) <| gl_op (op_rd rfl (rd_geq rfl rfl) (gk_dec (fun h14 => ?_) (fun h14 => ?_)))
  · exfalso; omega
  refine gl_nil <| gx_then <| gc_cond_f rfl <| gc_skip <| gx_then <| gc_seq <| gc_region <| gl_op <| op_rd rfl (rd_move rfl) <| gl_op <| op_rd rfl (rd_move rfl) <| gl_op <| op_rd rfl (rd_conv Try.runUnderlying121 Try.runUnderlying5 rfl (show IntKind.wrap .u8 (n : Int) = (n : Int) from wrap8_ok hn)) ?_
  obtain ⟨b, hb⟩ := ba_get (s := ⟨#[0, 1, 2, 2, 3, 3, 3, 3, 4, 4, 4, 4, 4, 4, 4, 4, 5, 5, 5, 5, 5, 5, 5, 5, 5, 5, 5, 5, 5, 5, 5, 5, 6, 6, 6, 6, 6, 6, 6, 6, 6, 6, 6, 6, 6, 6, 6, 6, 6, 6, 6, 6, 6, 6, 6, 6, 6, 6, 6, 6, 6, 6, 6, 6, 7, 7, 7, 7, 7, 7, 7, 7, 7, 7, 7, 7, 7, 7, 7, 7, 7, 7, 7, 7, 7, 7, 7, 7, 7, 7, 7, 7, 7, 7, 7, 7, 7, 7, 7, 7, 7, 7, 7, 7, 7, 7, 7, 7, 7, 7, 7, 7, 7, 7, 7, 7, 7, 7, 7, 7, 7, 7, 7, 7, 7, 7, 7, 7, 8, 8, 8, 8, 8, 8, 8, 8, 8, 8, 8, 8, 8, 8, 8, 8, 8, 8, 8, 8, 8, 8, 8, 8, 8, 8, 8, 8, 8, 8, 8, 8, 8, 8, 8, 8, 8, 8, 8, 8, 8, 8, 8, 8, 8, 8, 8, 8, 8, 8, 8, 8, 8, 8, 8, 8, 8, 8, 8, 8, 8, 8, 8, 8, 8, 8, 8, 8, 8, 8, 8, 8, 8, 8, 8, 8, 8, 8, 8, 8, 8, 8, 8, 8, 8, 8, 8, 8, 8, 8, 8, 8, 8, 8, 8, 8, 8, 8, 8, 8, 8, 8, 8, 8, 8, 8, 8, 8, 8, 8, 8, 8, 8, 8, 8, 8, 8, 8, 8, 8, 8, 8, 8, 8, 8, 8, 8, 8]⟩) (n := n) (show n < 256 by omega)
  have hb8 : b.toNat < 256 := b.toNat_lt
  refine gl_op <| op_rd rfl (rd_indexStr Try.underlying9 rfl rfl (hb)) <| gl_op (op_rd rfl (rd_conv Try.runUnderlying5 Try.runUnderlying3 rfl (wrap64_ok (by omega) (by omega))) ?_)
  refine gl_op (op_rd rfl (rd_addN (a := 0) rfl rfl (by omega)) ?_)
  refine gl_op <| op_rd rfl (rd_assign rfl) <| gl_nil <| gx_then <| gc_ret <| gx_ret1 (.inl rfl) Try.results89 rfl [] (by decide) ?_
  exact ⟨_, rfl, rfl⟩
set_option maxRecDepth 100000 in
set_option maxHeartbeats 1000000 in
theorem len_ok (n : Nat) (hn : n ≤ 100) (w0 : World) : Sp Try.prog 78 [.int .u64 (n : Int)] w0 [] (fun v L => ∃ r : Nat, v = natV r ∧ L = []) := by
  refine spec_enter Try.func78 rfl Try.ntmps78 rfl (Own.refl _) ?_
  simp only [argEnv]
  refine gc_seq <| gc_region <| gl_op <| op_rd rfl (rd_assign rfl) <| gl_nil <| gx_then <| gc_seq <| gc_cond_f rfl <| gc_skip <| gx_then <| gc_seq <| gc_region <| gl_op <| op_rd rfl (rd_move rfl) <| gl_op (op_call rfl (vf := []) (vc := []) rfl rfl Try.call89 (fun w1 ho => len64_ok n hn w1) ?_)
  rintro _ _ ⟨r, rfl, rfl⟩
  refine gl_op <| op_rd rfl (rd_assign rfl) <| gl_nil <| gx_then <| gc_ret <| gx_ret1 (.inl rfl) Try.results78 rfl [] (by decide) ?_
  exact ⟨r, rfl, rfl⟩
set_option maxRecDepth 100000 in
set_option maxHeartbeats 1000000 in
theorem insort_ok (ts : List Nat) (h1 : 1 ≤ ts.length) (h12 : ts.length ≤ 12) (r : Option Nat) (c : Nat) (w0 : World) (hown : Own w0 ([.row 2 1 r ts.length c (ts.map natV)].filterMap HL.block) w0 [.row 2 1 r ts.length c ((ts).map natV)]) : Sp Try.prog 79 [.slice (rowA r) ts.length c, natV 0, natV ts.length] w0 ([.row 2 1 r ts.length c (ts.map natV)].filterMap HL.block) (fun v L => v = .tuple #[] ∧ L = [.row 2 1 r ts.length c ((srt ts).map natV)]) := by
  refine spec_enter Try.func79 rfl Try.ntmps79 rfl hown ?_
  simp only [argEnv]
  refine gc_seq <| gc_region <| gl_op <| op_rd rfl (rd_move rfl) <| gl_op (op_rd rfl (by exact rd_addN (b := 1) rfl rfl (by omega)) ?_)
  refine gl_op <| op_rd rfl (rd_assign rfl) <| gl_nil <| gx_then <| gc_block <| gc_loopF (ι := Nat × List Nat) [(0, _), (1, _), (2, _)] [] (fun q => 1 ≤ q.1 ∧ q.1 ≤ ts.length ∧ q.2.Perm ts ∧ (q.2.take q.1).Pairwise (· ≤ ·)) (fun q Fr0 => ((6, natV q.1) :: Fr0)) (fun q Fr0 => (.row 2 1 r ts.length c ((q.2).map natV) :: Fr0)) (fun q => ts.length - q.1) (1, ts) (⟨Nat.le_refl _, h1, List.Perm.refl _, one_sorted ts⟩) ⟨rfl, rfl, rfl, rfl, trivial⟩ ⟨[0], by decide, rfl⟩ ?_
  rintro ⟨i, xs⟩ ⟨hi1, hil, hpm, hso⟩
  simp only at hi1 hil hpm hso ⊢
  have hxl := hpm.length_eq
  refine gc_seq <| gc_seq <| gc_region <| gl_op <| op_rd rfl (rd_move rfl) <| gl_op <| op_rd rfl (rd_move rfl) <| gl_op (op_rd rfl (rd_lss rfl rfl) (gk_dec (fun h12b => ?_) (fun h12b => ?_)))
  · obtain ⟨x, hx⟩ := get_some (show i < xs.length by omega)
    have htl : (xs.take i).length = i := by rw [List.length_take]; omega
    rw [show xs.map natV = (insJ (xs.take i) (xs.drop (i + 1)) x (xs.take i).length).map natV by rw [insJ_start xs hx]]
    rw [htl]
    refine gl_nil <| gx_then <| gc_cond_t rfl <| gc_skip <| gx_then <| gc_seq <| gc_block <| gc_seq <| gc_region <| gl_op <| op_rd rfl (rd_move rfl) <| gl_op <| op_rd rfl (rd_assign rfl) <| gl_nil <| gx_then <| gc_block <| gc_loopF (ι := Nat) [(0, _), (1, _), (2, _), (6, _)] [] (fun j1 => j1 ≤ i ∧ ∀ y ∈ (xs.take i).drop j1, x ≤ y) (fun j1 Fr0 => ((7, natV j1) :: Fr0)) (fun j1 Fr0 => (.row 2 1 r ts.length c ((insJ (xs.take i) (xs.drop (i + 1)) x j1).map natV) :: Fr0)) (fun j1 => j1) i (⟨Nat.le_refl _, fun y hy => absurd hy (by rw [List.drop_eq_nil_of_le (by rw [htl]; exact Nat.le_refl _)]; simp)⟩) ⟨rfl, rfl, rfl, rfl, rfl, trivial⟩ ⟨[0], by decide, rfl⟩ ?_
    rintro j1 ⟨hj, hgt⟩
    have hcl := insJ_len (xs.take i) (xs.drop (i + 1)) x j1
    rw [htl, List.length_drop] at hcl
    refine gc_seq <| gc_seq <| gc_drawP [0] true 14 rfl <| ga_first 0 (bm 15 1) rfl rfl rfl rfl (by kernel_rfl) (by kernel_rfl) ⟨[0], by decide, rfl⟩ (qt_rd (rd_move rfl)) ?_
    refine ga_first 1 (bm 15 3) rfl rfl rfl rfl (by kernel_rfl) (by kernel_rfl) ⟨[0], by decide, rfl⟩ (qt_rd (rd_move rfl)) ?_
    refine ga_first 2 (bm 15 7) rfl rfl rfl rfl (by kernel_rfl) (by kernel_rfl) ⟨[0], by decide, rfl⟩ (qt_rd (rd_gtr rfl rfl)) (gk_dec (fun h18 => ?_) (fun h18 => ?_))
    · obtain ⟨j, rfl⟩ : ∃ j, j1 = j + 1 := ⟨j1 - 1, by omega⟩
      obtain ⟨y9, hy9⟩ := get_some (show j < (xs.take i).length by omega)
      refine ga_first 3 (bm 15 15) rfl rfl rfl rfl (by kernel_rfl) (by kernel_rfl) ⟨[0], by decide, rfl⟩ (qt_rd (rd_move rfl)) ?_
      refine ga_firstY 4 (bm 15 31) rfl rfl rfl rfl rfl rfl (by kernel_rfl) (by kernel_rfl) ⟨[0], by decide, rfl⟩ (qt_rd (rd_move rfl)) ?_
      refine ga_firstY 5 (bm 15 63) rfl rfl rfl rfl rfl rfl (by kernel_rfl) (by kernel_rfl) ⟨[0], by decide, rfl⟩ (qt_rd (rd_move rfl)) ?_
      refine ga_firstY 6 (bm 15 127) rfl rfl rfl rfl rfl rfl (by kernel_rfl) (by kernel_rfl) ⟨[0], by decide, rfl⟩ (qt_rd (rd_indexRow1 0 rfl Try.underlying25 ty_2 rfl rfl (by omega) (by omega))) ?_
      refine ga_firstY 7 (bm 15 255) rfl rfl rfl rfl rfl rfl (by kernel_rfl) (by kernel_rfl) ⟨[0], by decide, rfl⟩ (qt_rd (rd_load Try.underlying2 rfl rfl (ld_rowN 0 rfl (get_nat (insJ_at (by omega)))))) ?_
      refine ga_firstY 8 (bm 15 511) rfl rfl rfl rfl rfl rfl (by kernel_rfl) (by kernel_rfl) ⟨[0], by decide, rfl⟩ (qt_rd (rd_move rfl)) ?_
      refine ga_firstY 9 (bm 15 1023) rfl rfl rfl rfl rfl rfl (by kernel_rfl) (by kernel_rfl) ⟨[0], by decide, rfl⟩ (qt_rd (rd_move rfl)) ?_
      refine ga_firstY 10 (bm 15 2047) rfl rfl rfl rfl rfl rfl (by kernel_rfl) (by kernel_rfl) ⟨[0], by decide, rfl⟩ (qt_rd (rd_subN (a := j + 1) (b := 1) rfl rfl (by omega) (by omega))) ?_
      refine ga_firstY 11 (bm 15 4095) rfl rfl rfl rfl rfl rfl (by kernel_rfl) (by kernel_rfl) ⟨[0], by decide, rfl⟩ (qt_rd (rd_indexRow1 0 rfl Try.underlying25 ty_2 rfl rfl (by omega) (by omega))) ?_
      refine ga_firstY 12 (bm 15 8191) rfl rfl rfl rfl rfl rfl (by kernel_rfl) (by kernel_rfl) ⟨[0], by decide, rfl⟩ (qt_rd (rd_load Try.underlying2 rfl rfl (ld_rowN 0 rfl (get_nat (insJ_before (by omega) hy9))))) ?_
      refine ga_firstY 13 (bm 15 16383) rfl rfl rfl rfl rfl rfl (by kernel_rfl) (by kernel_rfl) ⟨[0], by decide, rfl⟩ (qt_call (vf := []) (vc := []) rfl rfl Try.call85 (fun w1 ho => less64_ok x y9 w1) (by rintro _ _ ⟨h, _⟩; exact h)) ?_
      refine gk_bool (fun hl => ?_) (fun hl => ?_)
      · have hlt := of_decide_eq_true hl
        refine ga_first 14 (bm 15 32767) rfl rfl rfl rfl (by kernel_rfl) (by kernel_rfl) ⟨[0], by decide, rfl⟩ (qt_rd (rd_pick_t rfl rfl)) ?_
        refine ga_end (by kernel_rfl) (.inr ⟨[0], by decide, rfl⟩) ?_
        refine gx_then <| gc_cond_t rfl <| gc_skip <| gx_then <| gc_seq <| gc_block <| gc_drawP [0] false 13 rfl <| ga_firstT 0 (bm 18 1) rfl rfl rfl rfl (by kernel_rfl) (by kernel_rfl) (fun _ => rd_move rfl) ?_
        refine ga_firstT 1 (bm 18 3) rfl rfl rfl rfl (by kernel_rfl) (by kernel_rfl) (fun _ => rd_move rfl) ?_
        refine ga_firstT 2 (bm 18 7) rfl rfl rfl rfl (by kernel_rfl) (by kernel_rfl) (fun _ => rd_move rfl) ?_
        refine ga_firstT 3 (bm 18 15) rfl rfl rfl rfl (by kernel_rfl) (by kernel_rfl) (fun _ => rd_move rfl) ?_
        refine ga_firstT 4 (bm 18 31) rfl rfl rfl rfl (by kernel_rfl) (by kernel_rfl) (fun _ => rd_subN (a := j + 1) (b := 1) rfl rfl (by omega) (by omega)) ?_
        refine ga_firstT 5 (bm 18 63) rfl rfl rfl rfl (by kernel_rfl) (by kernel_rfl) (fun _ => rd_move rfl) ?_
        refine ga_firstT 6 (bm 18 127) rfl rfl rfl rfl (by kernel_rfl) (by kernel_rfl) (fun _ => rd_move rfl) ?_
        refine ga_firstT 7 (bm 18 255) rfl rfl rfl rfl (by kernel_rfl) (by kernel_rfl) (fun _ => rd_subN (a := j + 1) (b := 1) rfl rfl (by omega) (by omega)) ?_
        refine ga_firstT 10 (bm 18 1279) rfl rfl rfl rfl (by kernel_rfl) (by kernel_rfl) (fun _ => rd_move rfl) ?_
        refine ga_firstT 11 (bm 18 3327) rfl rfl rfl rfl (by kernel_rfl) (by kernel_rfl) (fun _ => rd_move rfl) ?_
        refine ga_first 12 (bm 18 7423) rfl rfl rfl rfl (by kernel_rfl) (by kernel_rfl) ⟨[0], by decide, rfl⟩ (qt_rd (rd_indexRow1 0 rfl Try.underlying25 ty_2 rfl rfl (by omega) (by omega))) ?_
        refine ga_two 8 13 (bm 18 7679) (bm 18 15615) rfl rfl rfl rfl (by kernel_rfl) (by kernel_rfl) (by kernel_rfl) (.inr ⟨[0], by decide, rfl⟩) ?_ ?_
        · refine (op_rd rfl (rd_indexRow1 0 rfl Try.underlying25 ty_2 rfl rfl (by omega) (by omega)) ?_)
          refine ga_two 9 13 (bm 18 8191) (bm 18 15871) rfl rfl rfl rfl (by kernel_rfl) (by kernel_rfl) (by kernel_rfl) (.inr ⟨[0], by decide, rfl⟩) ?_ ?_
          · refine (op_rd rfl (rd_load Try.underlying2 rfl rfl (ld_rowN 0 rfl (get_nat (insJ_before (by omega) hy9)))) ?_)
            refine ga_only 13 (bm 18 16383) rfl rfl (by kernel_rfl) (by kernel_rfl) (.inr ⟨[0], by decide, rfl⟩) (op_rd rfl (rd_load Try.underlying2 rfl rfl (ld_rowN 0 rfl (get_nat (insJ_at (by omega))))) ?_)
            refine ga_only 14 (bm 18 32767) rfl rfl (by kernel_rfl) (by kernel_rfl) (.inl (by kernel_rfl)) (op_rd rfl (rd_indexRow1 0 rfl Try.underlying25 ty_2 rfl rfl (by omega) (by omega)) ?_)
            refine ga_only 15 (bm 18 65535) rfl rfl (by kernel_rfl) (by kernel_rfl) (.inl (by kernel_rfl)) (op_storeRowE 0 ty_2 rfl rfl rfl rfl (by rw [List.length_map]; omega) (set_natL _ (j + 1) y9) (by rfl) ?_)
            refine ga_only 16 (bm 18 131071) rfl rfl (by kernel_rfl) (by kernel_rfl) (.inl (by kernel_rfl)) (op_rd rfl (rd_indexRow1 0 rfl Try.underlying25 ty_2 rfl rfl (by omega) (by omega)) ?_)
            refine ga_only 17 (bm 18 262143) rfl rfl (by kernel_rfl) (by kernel_rfl) (.inl (by kernel_rfl)) (op_storeRowE 0 ty_2 rfl rfl rfl rfl (by rw [List.length_map]; (rw [List.length_set]; omega)) ((set_natL _ j x).trans (congrArg (List.map natV) (insJ_swap (by omega) hy9))) (by rfl) ?_)
            refine ga_end (by kernel_rfl) (.inl (by kernel_rfl)) ?_
            refine gx_block <| gx_then <| gc_region <| gl_op <| op_rd rfl (rd_move rfl) <| gl_op (op_rd rfl (rd_subN (a := j + 1) (b := 1) rfl rfl (by omega) (by omega)) ?_)
            refine gl_op <| op_rd rfl (rd_assign rfl) <| gl_nil <| gx_then ?_
            exact gx_cut (j) ⟨⟨by omega, fun y hy => by
              rw [drop_at hy9] at hy
              rcases List.mem_cons.1 hy with rfl | hy
              · exact Nat.le_of_lt hlt
              · exact hgt y hy⟩, by omega⟩ ⟨rfl, rfl, rfl, rfl, rfl, trivial⟩ ⟨[0], by decide, rfl⟩
          refine (op_rd rfl (rd_load Try.underlying2 rfl rfl (ld_rowN 0 rfl (get_nat (insJ_at (by omega))))) ?_)
          refine ga_only 9 (bm 18 16383) rfl rfl (by kernel_rfl) (by kernel_rfl) (.inl (by kernel_rfl)) (op_rd rfl (rd_load Try.underlying2 rfl rfl (ld_rowN 0 rfl (get_nat (insJ_before (by omega) hy9)))) ?_)
          refine ga_only 14 (bm 18 32767) rfl rfl (by kernel_rfl) (by kernel_rfl) (.inl (by kernel_rfl)) (op_rd rfl (rd_indexRow1 0 rfl Try.underlying25 ty_2 rfl rfl (by omega) (by omega)) ?_)
          refine ga_only 15 (bm 18 65535) rfl rfl (by kernel_rfl) (by kernel_rfl) (.inl (by kernel_rfl)) (op_storeRowE 0 ty_2 rfl rfl rfl rfl (by rw [List.length_map]; omega) (set_natL _ (j + 1) y9) (by rfl) ?_)
          refine ga_only 16 (bm 18 131071) rfl rfl (by kernel_rfl) (by kernel_rfl) (.inl (by kernel_rfl)) (op_rd rfl (rd_indexRow1 0 rfl Try.underlying25 ty_2 rfl rfl (by omega) (by omega)) ?_)
          refine ga_only 17 (bm 18 262143) rfl rfl (by kernel_rfl) (by kernel_rfl) (.inl (by kernel_rfl)) (op_storeRowE 0 ty_2 rfl rfl rfl rfl (by rw [List.length_map]; (rw [List.length_set]; omega)) ((set_natL _ j x).trans (congrArg (List.map natV) (insJ_swap (by omega) hy9))) (by rfl) ?_)
          refine ga_end (by kernel_rfl) (.inl (by kernel_rfl)) ?_
          refine gx_block <| gx_then <| gc_region <| gl_op <| op_rd rfl (rd_move rfl) <| gl_op (op_rd rfl (rd_subN (a := j + 1) (b := 1) rfl rfl (by omega) (by omega)) ?_)
          refine gl_op <| op_rd rfl (rd_assign rfl) <| gl_nil <| gx_then ?_
          exact gx_cut (j) ⟨⟨by omega, fun y hy => by
            rw [drop_at hy9] at hy
            rcases List.mem_cons.1 hy with rfl | hy
            · exact Nat.le_of_lt hlt
            · exact hgt y hy⟩, by omega⟩ ⟨rfl, rfl, rfl, rfl, rfl, trivial⟩ ⟨[0], by decide, rfl⟩
        refine (op_rd rfl (rd_load Try.underlying2 rfl rfl (ld_rowN 0 rfl (get_nat (insJ_at (by omega))))) ?_)
        refine ga_only 8 (bm 18 15871) rfl rfl (by kernel_rfl) (by kernel_rfl) (.inl (by kernel_rfl)) (op_rd rfl (rd_indexRow1 0 rfl Try.underlying25 ty_2 rfl rfl (by omega) (by omega)) ?_)
        refine ga_only 9 (bm 18 16383) rfl rfl (by kernel_rfl) (by kernel_rfl) (.inl (by kernel_rfl)) (op_rd rfl (rd_load Try.underlying2 rfl rfl (ld_rowN 0 rfl (get_nat (insJ_before (by omega) hy9)))) ?_)
        refine ga_only 14 (bm 18 32767) rfl rfl (by kernel_rfl) (by kernel_rfl) (.inl (by kernel_rfl)) (op_rd rfl (rd_indexRow1 0 rfl Try.underlying25 ty_2 rfl rfl (by omega) (by omega)) ?_)
        refine ga_only 15 (bm 18 65535) rfl rfl (by kernel_rfl) (by kernel_rfl) (.inl (by kernel_rfl)) (op_storeRowE 0 ty_2 rfl rfl rfl rfl (by rw [List.length_map]; omega) (set_natL _ (j + 1) y9) (by rfl) ?_)
        refine ga_only 16 (bm 18 131071) rfl rfl (by kernel_rfl) (by kernel_rfl) (.inl (by kernel_rfl)) (op_rd rfl (rd_indexRow1 0 rfl Try.underlying25 ty_2 rfl rfl (by omega) (by omega)) ?_)
        refine ga_only 17 (bm 18 262143) rfl rfl (by kernel_rfl) (by kernel_rfl) (.inl (by kernel_rfl)) (op_storeRowE 0 ty_2 rfl rfl rfl rfl (by rw [List.length_map]; (rw [List.length_set]; omega)) ((set_natL _ j x).trans (congrArg (List.map natV) (insJ_swap (by omega) hy9))) (by rfl) ?_)
        refine ga_end (by kernel_rfl) (.inl (by kernel_rfl)) ?_
        refine gx_block <| gx_then <| gc_region <| gl_op <| op_rd rfl (rd_move rfl) <| gl_op (op_rd rfl (rd_subN (a := j + 1) (b := 1) rfl rfl (by omega) (by omega)) ?_)
        refine gl_op <| op_rd rfl (rd_assign rfl) <| gl_nil <| gx_then ?_
        exact gx_cut (j) ⟨⟨by omega, fun y hy => by
          rw [drop_at hy9] at hy
          rcases List.mem_cons.1 hy with rfl | hy
          · exact Nat.le_of_lt hlt
          · exact hgt y hy⟩, by omega⟩ ⟨rfl, rfl, rfl, rfl, rfl, trivial⟩ ⟨[0], by decide, rfl⟩
      have hge := Nat.le_of_not_lt (of_decide_eq_false hl)
      refine ga_first 14 (bm 15 32767) rfl rfl rfl rfl (by kernel_rfl) (by kernel_rfl) ⟨[0], by decide, rfl⟩ (qt_rd (rd_pick_t rfl rfl)) ?_
      refine ga_end (by kernel_rfl) (.inr ⟨[0], by decide, rfl⟩) ?_
      refine gx_then <| gc_cond_f rfl <| gc_exit <| gx_then_exit <| gx_then_exit <| gx_block_exit <| gx_block <| gx_then <| gc_region <| gl_op <| op_rd rfl (rd_move rfl) <| gl_op (op_rd rfl (by exact rd_addN (b := 1) rfl rfl (by omega)) ?_)
      refine gl_op <| op_rd rfl (rd_assign rfl) <| gl_nil <| gx_then ?_
      have hfin := insJ_sorted (rest := xs.drop (i + 1)) (x := x) (j := j + 1) hso (by rw [htl]; omega) hgt (fun y hy => Nat.le_trans (take_le_last hso hy9 y hy) hge)
      exact gx_cut ((i + 1, insJ (xs.take i) (xs.drop (i + 1)) x (j + 1))) ⟨⟨by simp only; omega, by simp only; omega, (insJ_perm _ _ _ _).trans ((List.Perm.of_eq (by rw [← drop_at hx, List.take_append_drop])).trans hpm), by rw [htl] at hfin; exact hfin⟩, by simp only; omega⟩ ⟨rfl, rfl, rfl, rfl, trivial⟩ ⟨[0], by decide, rfl⟩
    refine ga_first 3 (bm 15 15) rfl rfl rfl rfl (by kernel_rfl) (by kernel_rfl) ⟨[0], by decide, rfl⟩ (qt_rd (rd_move rfl)) ?_
    refine ga_firstN 4 (bm 15 31) rfl rfl rfl rfl rfl rfl (by kernel_rfl) (by kernel_rfl) ⟨[0], by decide, rfl⟩ ?_
    refine ga_firstN 5 (bm 15 63) rfl rfl rfl rfl rfl rfl (by kernel_rfl) (by kernel_rfl) ⟨[0], by decide, rfl⟩ ?_
    refine ga_firstN 6 (bm 15 127) rfl rfl rfl rfl rfl rfl (by kernel_rfl) (by kernel_rfl) ⟨[0], by decide, rfl⟩ ?_
    refine ga_firstN 7 (bm 15 255) rfl rfl rfl rfl rfl rfl (by kernel_rfl) (by kernel_rfl) ⟨[0], by decide, rfl⟩ ?_
    refine ga_firstN 8 (bm 15 511) rfl rfl rfl rfl rfl rfl (by kernel_rfl) (by kernel_rfl) ⟨[0], by decide, rfl⟩ ?_
    refine ga_firstN 9 (bm 15 1023) rfl rfl rfl rfl rfl rfl (by kernel_rfl) (by kernel_rfl) ⟨[0], by decide, rfl⟩ ?_
    refine ga_firstN 10 (bm 15 2047) rfl rfl rfl rfl rfl rfl (by kernel_rfl) (by kernel_rfl) ⟨[0], by decide, rfl⟩ ?_
    refine ga_firstN 11 (bm 15 4095) rfl rfl rfl rfl rfl rfl (by kernel_rfl) (by kernel_rfl) ⟨[0], by decide, rfl⟩ ?_
    refine ga_firstN 12 (bm 15 8191) rfl rfl rfl rfl rfl rfl (by kernel_rfl) (by kernel_rfl) ⟨[0], by decide, rfl⟩ ?_
    refine ga_firstN 13 (bm 15 16383) rfl rfl rfl rfl rfl rfl (by kernel_rfl) (by kernel_rfl) ⟨[0], by decide, rfl⟩ ?_
    refine ga_first 14 (bm 15 32767) rfl rfl rfl rfl (by kernel_rfl) (by kernel_rfl) ⟨[0], by decide, rfl⟩ (qt_rd (rd_pick_f rfl rfl)) ?_
    refine ga_end (by kernel_rfl) (.inr ⟨[0], by decide, rfl⟩) ?_
    refine gx_then <| gc_cond_f rfl <| gc_exit <| gx_then_exit <| gx_then_exit <| gx_block_exit <| gx_block <| gx_then <| gc_region <| gl_op <| op_rd rfl (rd_move rfl) <| gl_op (op_rd rfl (by exact rd_addN (b := 1) rfl rfl (by omega)) ?_)
    refine gl_op <| op_rd rfl (rd_assign rfl) <| gl_nil <| gx_then ?_
    have hfin := insJ_sorted (rest := xs.drop (i + 1)) (x := x) (j := j1) hso (by rw [htl]; omega) hgt (fun y hy => absurd hy (by rw [show j1 = 0 by omega]; simp))
    exact gx_cut ((i + 1, insJ (xs.take i) (xs.drop (i + 1)) x j1)) ⟨⟨by simp only; omega, by simp only; omega, (insJ_perm _ _ _ _).trans ((List.Perm.of_eq (by rw [← drop_at hx, List.take_append_drop])).trans hpm), by rw [htl] at hfin; exact hfin⟩, by simp only; omega⟩ ⟨rfl, rfl, rfl, rfl, trivial⟩ ⟨[0], by decide, rfl⟩
  refine gl_nil <| gx_then <| gc_cond_f rfl <| gc_exit <| gx_then_exit <| gx_then_exit <| gx_block_exit <| gx_ret0 (.inr rfl) Try.results79 [0] (by decide) ?_
  have hi9 : i = ts.length := by omega
  subst hi9
  rw [List.take_of_length_le (by omega)] at hso
  rw [← srt_eq hpm hso]
  exact ⟨rfl, rfl⟩
end Go.Proofs.Ytafmcflggikbfaa
namespace Go.Proofs.Ytafmcflggikbfaa
open Go.Gv
open Go.RowKit
open Go.Sn
open Go.Wk
open Sx
namespace Sx
theorem drop_cons {l r : List Nat} {j a : Nat} (h : l.drop j = a :: r) : j < l.length ∧ l.getD j 0 = a ∧ l.drop (j + 1) = r := by
  have hl : j < l.length := by
    rcases Nat.lt_or_ge j l.length with h1 | h1
    · exact h1
    · rw [List.drop_eq_nil_of_le h1] at h; cases h
  obtain ⟨x, hx⟩ := get_some hl
  rw [drop_at hx] at h
  have h1 := (List.cons.inj h).1
  have h2 := (List.cons.inj h).2
  refine ⟨hl, ?_, h2⟩
  rw [List.getD_eq_getElem?_getD, hx]; exact h1
def freesL (shop : List Int) (l : List Jb) (p : Plc) (i : Nat) : List Nat := (srt (cand l p i l.length)).filter (freeB shop l p i)
theorem filt_yes {f : Nat → Bool} {xs : List Nat} {k t : Nat} (hx : xs[k]? = some t) (hf : f t = true) : (xs.drop k).filter f = t :: (xs.drop (k + 1)).filter f := by
  rw [drop_at hx]; simp [hf]
theorem filt_no {f : Nat → Bool} {xs : List Nat} {k t : Nat} (hx : xs[k]? = some t) (hf : f t = false) : (xs.drop k).filter f = (xs.drop (k + 1)).filter f := by
  rw [drop_at hx]; simp [hf]
end Sx
open Sx
set_option maxRecDepth 100000 in
set_option maxHeartbeats 1000000 in
theorem pdq_ok (ts : List Nat) (h1 : 1 ≤ ts.length) (h12 : ts.length ≤ 12) (r : Option Nat) (c : Nat) (w0 : World) (hown : Own w0 ([.row 2 1 r ts.length c (ts.map natV)].filterMap HL.block) w0 [.row 2 1 r ts.length c ((ts).map natV)]) (q : Nat) : Sp Try.prog 77 [.slice (rowA r) ts.length c, natV 0, natV ts.length, natV q] w0 ([.row 2 1 r ts.length c (ts.map natV)].filterMap HL.block) (fun v L => v = .tuple #[] ∧ L = [.row 2 1 r ts.length c ((srt ts).map natV)]) := by
  refine spec_enter Try.func77 rfl Try.ntmps77 rfl hown ?_
  simp only [argEnv]
  refine gc_seq <| gc_region <| gl_op <| op_rd rfl (rd_assign rfl) <| gl_nil <| gx_then <| gc_seq <| gc_region <| gl_op <| op_rd rfl (rd_assign rfl) <| gl_nil <| gx_then <| gc_block <| gc_loopF (ι := Unit) [(0, _)] [] (fun _ => True) (fun _ Fr0 => ((1, natV 0) :: (2, natV ts.length) :: (3, natV q) :: (8, .bool true) :: (9, .bool true) :: Fr0)) (fun _ Fr0 => (.row 2 1 r ts.length c ((ts).map natV) :: Fr0)) (fun _ => 0) () (trivial) ⟨rfl, rfl, rfl, rfl, rfl, rfl, trivial⟩ ⟨[0], by decide, rfl⟩ ?_
  rintro _ _
  refine gc_block <| gc_seq <| gc_region <| gl_op <| op_rd rfl (rd_move rfl) <| gl_op <| op_rd rfl (rd_move rfl) <| gl_op (op_rd rfl (rd_subN (a := ts.length) (b := 0) rfl rfl (by omega) (by omega)) ?_)
  refine gl_op <| op_rd rfl (rd_assign rfl) <| gl_nil <| gx_then <| gc_seq <| gc_seq <| gc_region <| gl_op <| op_rd rfl (rd_move rfl) <| gl_op (op_rd rfl (rd_leq rfl rfl) (gk_dec (fun h23 => ?_) (fun h23 => ?_)))
  · refine gl_nil <| gx_then <| gc_cond_t rfl <| gc_seq <| gc_region <| gl_op <| op_rd rfl (rd_move rfl) <| gl_op <| op_rd rfl (rd_move rfl) <| gl_op <| op_rd rfl (rd_move rfl) <| gl_op (op_callM [0] [] rfl (vf := []) (vc := []) rfl rfl Try.call79 (by decide) rfl (fun w how hc => insort_ok ts h1 h12 r c w hc) ?_)
    rintro _ _ ⟨rfl, rfl⟩
    refine gl_nil <| gx_then <| gc_ret <| gx_then_ret <| gx_block_ret <| gx_then_ret <| gx_block_ret <| gx_ret0 (.inl rfl) Try.results77 [0] (by decide) ?_
    exact ⟨rfl, rfl⟩
  exfalso; omega
set_option maxRecDepth 100000 in
set_option maxHeartbeats 1000000 in
theorem sort_ok (ts : List Nat) (h1 : 1 ≤ ts.length) (h12 : ts.length ≤ 12) (r : Option Nat) (c : Nat) (w0 : World) (hown : Own w0 ([.row 2 1 r ts.length c (ts.map natV)].filterMap HL.block) w0 [.row 2 1 r ts.length c ((ts).map natV)]) : Sp Try.prog 73 [.slice (rowA r) ts.length c] w0 ([.row 2 1 r ts.length c (ts.map natV)].filterMap HL.block) (fun v L => v = .tuple #[] ∧ L = [.row 2 1 r ts.length c ((srt ts).map natV)]) := by
  refine spec_enter Try.func73 rfl Try.ntmps73 rfl hown ?_
  simp only [argEnv]
  refine gc_seq <| gc_region <| gl_op <| op_rd rfl (rd_move rfl) <| gl_op <| op_rd rfl (rd_lenSlice Try.underlying25 rfl) <| gl_op <| op_rd rfl (rd_assign rfl) <| gl_nil <| gx_then <| gc_region <| gl_op <| op_rd rfl (rd_move rfl) <| gl_op <| op_rd rfl (rd_move rfl) <| gl_op <| op_rd rfl (rd_move rfl) <| gl_op (op_rd rfl (rd_conv Try.runUnderlying3 Try.runUnderlying108 rfl (wrap_u64_nat (by omega))) ?_)
  refine gl_op (op_call rfl (vf := []) (vc := []) rfl rfl Try.call78 (fun w1 ho => len_ok ts.length (by omega) w1) ?_)
  rintro _ _ ⟨q, rfl, rfl⟩
  refine gl_op (op_callM [0] [] rfl (vf := []) (vc := []) rfl rfl Try.call77 (by decide) rfl (fun w how hc => pdq_ok ts h1 h12 r c w hc q) ?_)
  rintro _ _ ⟨rfl, rfl⟩
  refine gl_nil <| gx_ret0 (.inr rfl) Try.results73 [0] (by decide) ?_
  exact ⟨rfl, rfl⟩
set_option maxRecDepth 100000 in
set_option maxHeartbeats 1000000 in
theorem Clone_ok (q : Nat) (cq : Nat) (g : List Nat) (hg : g.length ≤ 100) (w0 : World) (hA : OldSl w0 [] (rowA (some q)) g.length 1 (g.map natV)) : Sp Try.prog 58 [.slice (rowA (some q)) g.length cq] w0 [] (fun v L => ∃ (r : Option Nat) (c : Nat), v = .slice (rowA r) g.length c ∧ (g.length ≠ 0 → r.isSome = true) ∧ L = [.row 2 1 r g.length c (g.map natV)]) := by
  refine spec_enter Try.func58 rfl Try.ntmps58 rfl (Own.refl _) ?_
  simp only [argEnv]
  refine gc_seq <| gc_region <| gl_op <| op_rd rfl (rd_assign rfl) <| gl_nil <| gx_then <| gc_seq <| gc_seq <| gc_region <| gl_op <| op_rd rfl (rd_move rfl) <| gl_op <| op_rd rfl (rd_eqlNilSl eg_25 Try.underlying25 rfl rfl) <| gl_nil <| gx_then <| gc_cond_f rfl <| gc_skip <| gx_then <| gc_seq <| gc_region <| gl_op (op_buildSlice (sz := 1) rfl rfl (fun _ => bs_25_0_) rfl rfl (fun b5 => ?_))
  refine gl_op <| op_rd rfl (rd_move rfl) <| gl_op (op_appendSl 0 hA Try.underlying25 ty_2 rfl (by decide) rfl rfl rfl rfl (fun u hu => (by obtain ⟨x, _, rfl⟩ := List.mem_map.1 hu; rfl)) (by omega) (by omega) (fun _ => (by rfl)) (fun r7 c7 => ?_))
  refine gl_op <| op_rd rfl (rd_assign rfl) <| gl_nil <| gx_then <| gc_ret <| gk_know (fun w ho => Own.rowSome ho 0 rfl) (fun hsome => ?_)
  refine gx_ret1 (.inl rfl) Try.results58 rfl [0] (by decide) ?_
  exact ⟨r7, c7, by rw [Nat.zero_add], fun h => hsome (by omega), by rw [Nat.zero_add]; rfl⟩
set_option maxRecDepth 100000 in
set_option maxHeartbeats 1000000 in
theorem unpl_ok (p : Plc) (pcb bp : Nat) (vs0 vs1 vs2 v4 v5 : Value) (qb : Option Nat) (cb : Nat) (y : Nat × Nat) (hy : y.1 < p.is.length) (w0 : World) (hC : OldSl w0 [] (some ⟨pcb, 0, none⟩) 1 1 [.pointer (some ⟨bp, 0, none⟩)]) (hP : OldSl w0 [] (some ⟨bp, 0, none⟩) 1 6 [vs0, vs1, vs2, .slice (rowA qb) p.is.length cb, v4, v5]) (hB : OldSl w0 [] (rowA qb) p.is.length 1 (p.is.map boolV)) : Sp Try.prog 60 [.agg #[natV y.1, natV y.2], .pointer (some ⟨pcb, 0, none⟩)] w0 [] (RV (.bool (!plB p y.1))) := by
  refine spec_enter Try.func60 rfl Try.ntmps60 rfl (Own.refl _) ?_
  simp only [argEnv]
  refine gc_seq <| gc_region <| gl_op (op_box rfl rfl rfl (fun b2 => ?_))
  refine gl_op <| op_rd rfl (rd_assign rfl) <| gl_nil <| gx_then <| gc_seq <| gc_drawP [0] true 9 rfl <| ga_first 0 (bm 10 1) rfl rfl rfl rfl (by kernel_rfl) (by kernel_rfl) ⟨[0], by decide, rfl⟩ (qt_rd (rd_load Try.underlying73 rfl rfl (ld_sl (off := 0) hC rfl))) ?_
  refine ga_first 1 (bm 10 3) rfl rfl rfl rfl (by kernel_rfl) (by kernel_rfl) ⟨[0], by decide, rfl⟩ (qt_rd (rd_nilCheck rfl)) ?_
  refine ga_first 2 (bm 10 7) rfl rfl rfl rfl (by kernel_rfl) (by kernel_rfl) ⟨[0], by decide, rfl⟩ (qt_rd (rd_fieldAddr rfl (fa_76_3 _))) ?_
  refine ga_first 3 (bm 10 15) rfl rfl rfl rfl (by kernel_rfl) (by kernel_rfl) ⟨[0], by decide, rfl⟩ (qt_rd (rd_load Try.underlying74 rfl rfl (ld_sl hP rfl))) ?_
  refine ga_first 4 (bm 10 31) rfl rfl rfl rfl (by kernel_rfl) (by kernel_rfl) ⟨[0], by decide, rfl⟩ (qt_rd (rd_fieldAddr rfl (fa_50_0 _))) ?_
  refine ga_first 5 (bm 10 63) rfl rfl rfl rfl (by kernel_rfl) (by kernel_rfl) ⟨[0], by decide, rfl⟩ (qt_rd (rd_load Try.underlying3 rfl rfl (by exact ld_blk 0 rfl rfl))) ?_
  refine ga_first 6 (bm 10 127) rfl rfl rfl rfl (by kernel_rfl) (by kernel_rfl) ⟨[0], by decide, rfl⟩ (qt_rd (rd_indexOld1 hB Try.underlying74 ty_4 rfl rfl (by omega) (by omega))) ?_
  refine ga_first 7 (bm 10 255) rfl rfl rfl rfl (by kernel_rfl) (by kernel_rfl) ⟨[0], by decide, rfl⟩ (qt_rd (rd_load Try.underlying4 rfl rfl (ld_slN hB (get_plQ (k := y.1) (by omega))))) ?_
  refine ga_first 8 (bm 10 511) rfl rfl rfl rfl (by kernel_rfl) (by kernel_rfl) ⟨[0], by decide, rfl⟩ (qt_rd (rd_not rfl)) ?_
  refine ga_first 9 (bm 10 1023) rfl rfl rfl rfl (by kernel_rfl) (by kernel_rfl) ⟨[0], by decide, rfl⟩ (qt_rd (rd_assign rfl)) ?_
  refine ga_end (by kernel_rfl) (.inr ⟨[0], by decide, rfl⟩) ?_
  refine gx_then <| gc_ret <| gx_ret1 (.inl rfl) Try.results60 rfl [] (by decide) ?_
  exact ⟨rfl, rfl⟩
set_option maxRecDepth 100000 in
set_option maxHeartbeats 1000000 in
theorem indexUnpl_ok (a : Option Addr) (c : Nat) (l : List (Nat × Nat)) (hll : l.length ≤ 10) (p : Plc) (hpl : ∀ y ∈ l, y.1 < p.is.length) (pcb bp : Nat) (vs0 vs1 vs2 v4 v5 : Value) (qb : Option Nat) (cb : Nat) (w0 : World) (hL : OldSl w0 [] a l.length 2 (l.flatMap lagN)) (hC : OldSl w0 [] (some ⟨pcb, 0, none⟩) 1 1 [.pointer (some ⟨bp, 0, none⟩)]) (hP : OldSl w0 [] (some ⟨bp, 0, none⟩) 1 6 [vs0, vs1, vs2, .slice (rowA qb) p.is.length cb, v4, v5]) (hB : OldSl w0 [] (rowA qb) p.is.length 1 (p.is.map boolV)) : Sp Try.prog 71 [.slice a l.length c, .func (.func 60) #[] #[.pointer (some ⟨pcb, 0, none⟩)]] w0 [] (fun v L => ∃ r : Int, v = .int .i64 r ∧ L = [] ∧ (0 ≤ r ↔ l.any ((fun y : Nat × Nat => !plB p y.1)) = true)) := by
  refine spec_enter Try.func71 rfl Try.ntmps71 rfl (Own.refl _) ?_
  simp only [argEnv]
  refine gc_seq <| gc_region <| gl_op <| op_rd rfl (rd_assign rfl) <| gl_nil <| gx_then <| gc_seq <| gc_seq <| gc_region <| gl_op <| op_rd rfl (rd_move rfl) <| gl_op <| op_rd rfl (rd_lenSlice Try.underlying46 rfl) <| gl_op <| op_rd rfl (rd_move rfl) <| gl_nil <| gx_then <| gc_block <| gc_loopF (ι := Nat) [(0, _), (1, _), (7, _)] [] (fun k => k ≤ l.length ∧ ∀ (j : Nat) y, j < k → l[j]? = some y → ((fun y : Nat × Nat => !plB p y.1)) y = false) (fun k Fr0 => ((8, natV k) :: Fr0)) (fun k Fr0 => Fr0) (fun k => l.length - k) 0 (⟨Nat.zero_le _, fun j y h => absurd h (Nat.not_lt_zero j)⟩) ⟨rfl, rfl, rfl, rfl, trivial⟩ ⟨[], by decide, rfl⟩ ?_
  rintro k ⟨hkk, hall⟩
  refine gc_seq <| gc_region <| gl_op (op_rd rfl (rd_lss rfl rfl) (gk_dec (fun h9 => ?_) (fun h9 => ?_)))
  · obtain ⟨x, hx⟩ := get_some (show k < l.length by omega)
    refine gl_nil <| gx_then <| gc_seq <| gc_cond_t rfl <| gc_skip <| gx_then <| gc_seq <| gc_block <| gc_seq <| gc_region <| gl_op <| op_rd rfl (rd_move rfl) <| gl_op <| op_rd rfl (rd_assign rfl) <| gl_nil <| gx_then <| gc_seq <| gc_region <| gl_op <| op_rd rfl (rd_move rfl) <| gl_op <| op_rd rfl (rd_move rfl) <| gl_op <| op_rd rfl (rd_move rfl) <| gl_op (op_rd rfl (rd_indexOld hL Try.underlying46 ty_50 rfl rfl (by omega) (by omega)) ?_)
    refine gl_op (op_rd rfl (rd_loadAgg Try.underlying50 rfl ty_50 rfl (cs_slN hL (flat_drop_get lagN 2 (fun _ => rfl) hx)) rfl) ?_)
    simp only [lagN]
    refine gl_op (op_call rfl (vf := []) (vc := [.pointer (some ⟨pcb, 0, none⟩)]) rfl rfl Try.call60 (fun w1 ho => unpl_ok p pcb bp vs0 vs1 vs2 v4 v5 qb cb x (hpl x (List.mem_of_getElem? hx)) w1 (hC.at ho) (hP.at ho) (hB.at ho)) ?_)
    rintro _ _ ⟨rfl, rfl⟩
    refine gk_bool (fun hh => ?_) (fun hh => ?_)
    · refine gl_nil <| gx_then <| gc_cond_t rfl <| gc_seq <| gc_region <| gl_op <| op_rd rfl (rd_move rfl) <| gl_op <| op_rd rfl (rd_assign rfl) <| gl_nil <| gx_then <| gc_ret <| gx_block_ret <| gx_then_ret <| gx_then_ret <| gx_block_ret <| gx_then_ret <| gx_ret1 (.inl rfl) Try.results71 rfl [] (by decide) ?_
      exact ⟨_, rfl, rfl, ⟨fun _ => any_yes hx hh, fun _ => by omega⟩⟩
    refine gl_nil <| gx_then <| gc_cond_f rfl <| gc_skip <| gx_block <| gx_then <| gc_region <| gl_op (op_rd rfl (by exact rd_addN (b := 1) rfl rfl (by omega)) ?_)
    refine gl_op <| op_rd rfl (rd_move rfl) <| gl_nil <| gx_then ?_
    exact gx_cut (k + 1) ⟨⟨by omega, snocF hall hx hh⟩, by omega⟩ ⟨rfl, rfl, rfl, rfl, trivial⟩ ⟨[], by decide, rfl⟩
  refine gl_nil <| gx_then <| gc_seq <| gc_cond_f rfl <| gc_exit <| gx_then_exit <| gx_then_exit <| gx_block_exit <| gx_then <| gc_seq <| gc_region <| gl_op <| op_rd rfl (rd_assign rfl) <| gl_nil <| gx_then <| gc_ret <| gx_ret1 (.inl rfl) Try.results71 rfl [] (by decide) ?_
  refine ⟨_, rfl, rfl, ⟨fun h => by omega, fun h => ?_⟩⟩
  rw [allF hall (by omega)] at h; cases h
set_option maxRecDepth 100000 in
set_option maxHeartbeats 1000000 in
theorem containsUnpl_ok (a : Option Addr) (c : Nat) (l : List (Nat × Nat)) (hll : l.length ≤ 10) (p : Plc) (hpl : ∀ y ∈ l, y.1 < p.is.length) (pcb bp : Nat) (vs0 vs1 vs2 v4 v5 : Value) (qb : Option Nat) (cb : Nat) (w0 : World) (hL : OldSl w0 [] a l.length 2 (l.flatMap lagN)) (hC : OldSl w0 [] (some ⟨pcb, 0, none⟩) 1 1 [.pointer (some ⟨bp, 0, none⟩)]) (hP : OldSl w0 [] (some ⟨bp, 0, none⟩) 1 6 [vs0, vs1, vs2, .slice (rowA qb) p.is.length cb, v4, v5]) (hB : OldSl w0 [] (rowA qb) p.is.length 1 (p.is.map boolV)) : Sp Try.prog 59 [.slice a l.length c, .func (.func 60) #[] #[.pointer (some ⟨pcb, 0, none⟩)]] w0 [] (RV (.bool (l.any ((fun y : Nat × Nat => !plB p y.1))))) := by
  refine spec_enter Try.func59 rfl Try.ntmps59 rfl (Own.refl _) ?_
  simp only [argEnv]
  refine gc_seq <| gc_region <| gl_op <| op_rd rfl (rd_assign rfl) <| gl_nil <| gx_then <| gc_seq <| gc_region <| gl_op <| op_rd rfl (rd_move rfl) <| gl_op <| op_rd rfl (rd_move rfl) <| gl_op (op_call rfl (vf := []) (vc := []) rfl rfl Try.call71 (fun w1 ho => indexUnpl_ok a c l hll p hpl pcb bp vs0 vs1 vs2 v4 v5 qb cb w1 (hL.at ho) (hC.at ho) (hP.at ho) (hB.at ho)) ?_)
  rintro _ _ ⟨r, rfl, rfl, hr⟩
  refine gl_op <| op_rd rfl (rd_geq rfl rfl) <| gl_op <| op_rd rfl (rd_assign rfl) <| gl_nil <| gx_then <| gc_ret <| gx_ret1 (.inl rfl) Try.results59 rfl [] (by decide) ?_
  refine ⟨congrArg Value.bool ?_, rfl⟩
  rw [Bool.eq_iff_iff, ← hr]; simp
set_option maxRecDepth 100000 in
set_option maxHeartbeats 1000000 in
theorem ben1_ok (x : Jb) (shb : Nat) (sa : Option Addr) (sc : Nat) (shop : List Int) (hsl : shop.length ≤ 140737488355328) (w0 : World) (hC : OldSl w0 [] (some ⟨shb, 0, none⟩) 1 1 [.slice sa shop.length sc]) : Sp Try.prog 44 [x.val, .pointer (some ⟨shb, 0, none⟩)] w0 [] (RV (.bool (decide (shop.length ≤ x.bench)))) := by
  refine spec_enter Try.func44 rfl Try.ntmps44 rfl (Own.refl _) ?_
  simp only [argEnv]
  refine gc_seq <| gc_region <| gl_op (op_box rfl rfl rfl (fun b2 => ?_))
  refine gl_op <| op_rd rfl (rd_assign rfl) <| gl_nil <| gx_then <| gc_seq <| gc_region <| gl_op <| op_rd rfl (rd_fieldAddr rfl (fa_48_1 _)) <| gl_op (op_rd rfl (rd_load Try.underlying3 rfl rfl (by exact ld_blk 0 rfl rfl)) ?_)
  refine gl_op <| op_rd rfl (rd_load Try.underlying29 rfl rfl (ld_sl (off := 0) hC rfl)) <| gl_op <| op_rd rfl (rd_lenSlice Try.underlying29 rfl) <| gl_op <| op_rd rfl (rd_geq rfl rfl) <| gl_op <| op_rd rfl (rd_assign rfl) <| gl_nil <| gx_then <| gc_ret <| gx_ret1 (.inl rfl) Try.results44 rfl [] (by decide) ?_
  refine ⟨congrArg Value.bool ?_, rfl⟩
  rw [decide_eq_decide]; omega
set_option maxRecDepth 100000 in
set_option maxHeartbeats 1000000 in
theorem indexBen_ok (a : Option Addr) (c : Nat) (l : List Jb) (hln : l.length ≤ 40) (shb : Nat) (sa : Option Addr) (sc : Nat) (shop : List Int) (hsl : shop.length ≤ 140737488355328) (w0 : World) (hJ : JnIn a l w0 []) (hC : OldSl w0 [] (some ⟨shb, 0, none⟩) 1 1 [.slice sa shop.length sc]) : Sp Try.prog 49 [.slice a l.length c, .func (.func 44) #[] #[.pointer (some ⟨shb, 0, none⟩)]] w0 [] (fun v L => ∃ r : Int, v = .int .i64 r ∧ L = [] ∧ (0 ≤ r ↔ l.any ((fun x : Jb => decide (shop.length ≤ x.bench))) = true)) := by
  refine spec_enter Try.func49 rfl Try.ntmps49 rfl (Own.refl _) ?_
  simp only [argEnv]
  refine gc_seq <| gc_region <| gl_op <| op_rd rfl (rd_assign rfl) <| gl_nil <| gx_then <| gc_seq <| gc_seq <| gc_region <| gl_op <| op_rd rfl (rd_move rfl) <| gl_op <| op_rd rfl (rd_lenSlice Try.underlying22 rfl) <| gl_op <| op_rd rfl (rd_move rfl) <| gl_nil <| gx_then <| gc_block <| gc_loopF (ι := Nat) [(0, _), (1, _), (7, _)] [] (fun k => k ≤ l.length ∧ ∀ (j : Nat) y, j < k → l[j]? = some y → ((fun x : Jb => decide (shop.length ≤ x.bench))) y = false) (fun k Fr0 => ((8, natV k) :: Fr0)) (fun k Fr0 => Fr0) (fun k => l.length - k) 0 (⟨Nat.zero_le _, fun j y h => absurd h (Nat.not_lt_zero j)⟩) ⟨rfl, rfl, rfl, rfl, trivial⟩ ⟨[], by decide, rfl⟩ ?_
  rintro k ⟨hkk, hall⟩
  refine gc_seq <| gc_region <| gl_op (op_rd rfl (rd_lss rfl rfl) (gk_dec (fun h9 => ?_) (fun h9 => ?_)))
  · obtain ⟨x, hx⟩ := get_some (show k < l.length by omega)
    refine gl_nil <| gx_then <| gc_seq <| gc_cond_t rfl <| gc_skip <| gx_then <| gc_seq <| gc_block <| gc_seq <| gc_region <| gl_op <| op_rd rfl (rd_move rfl) <| gl_op <| op_rd rfl (rd_assign rfl) <| gl_nil <| gx_then <| gc_seq <| gc_region <| gl_op <| op_rd rfl (rd_move rfl) <| gl_op <| op_rd rfl (rd_move rfl) <| gl_op <| op_rd rfl (rd_move rfl) <| gl_op (op_rd rfl (rd_indexOld hJ.t Try.underlying22 ty_48 rfl rfl (by omega) (by omega)) ?_)
    refine gl_op (op_rd rfl (rd_loadAgg Try.underlying48 rfl ty_48 rfl (cs_slN hJ.t (flat_drop_get Jb.cells 4 (fun _ => rfl) hx)) rfl) ?_)
    simp only [Jb.cells]
    refine gl_op (op_call rfl (vf := []) (vc := [.pointer (some ⟨shb, 0, none⟩)]) rfl rfl Try.call44 (fun w1 ho => ben1_ok x shb sa sc shop hsl w1 (hC.at ho)) ?_)
    rintro _ _ ⟨rfl, rfl⟩
    refine gk_bool (fun hh => ?_) (fun hh => ?_)
    · refine gl_nil <| gx_then <| gc_cond_t rfl <| gc_seq <| gc_region <| gl_op <| op_rd rfl (rd_move rfl) <| gl_op <| op_rd rfl (rd_assign rfl) <| gl_nil <| gx_then <| gc_ret <| gx_block_ret <| gx_then_ret <| gx_then_ret <| gx_block_ret <| gx_then_ret <| gx_ret1 (.inl rfl) Try.results49 rfl [] (by decide) ?_
      exact ⟨_, rfl, rfl, ⟨fun _ => any_yes hx hh, fun _ => by omega⟩⟩
    refine gl_nil <| gx_then <| gc_cond_f rfl <| gc_skip <| gx_block <| gx_then <| gc_region <| gl_op (op_rd rfl (by exact rd_addN (b := 1) rfl rfl (by omega)) ?_)
    refine gl_op <| op_rd rfl (rd_move rfl) <| gl_nil <| gx_then ?_
    exact gx_cut (k + 1) ⟨⟨by omega, snocF hall hx hh⟩, by omega⟩ ⟨rfl, rfl, rfl, rfl, trivial⟩ ⟨[], by decide, rfl⟩
  refine gl_nil <| gx_then <| gc_seq <| gc_cond_f rfl <| gc_exit <| gx_then_exit <| gx_then_exit <| gx_block_exit <| gx_then <| gc_seq <| gc_region <| gl_op <| op_rd rfl (rd_assign rfl) <| gl_nil <| gx_then <| gc_ret <| gx_ret1 (.inl rfl) Try.results49 rfl [] (by decide) ?_
  refine ⟨_, rfl, rfl, ⟨fun h => by omega, fun h => ?_⟩⟩
  rw [allF hall (by omega)] at h; cases h
set_option maxRecDepth 100000 in
set_option maxHeartbeats 1000000 in
theorem containsBen_ok (a : Option Addr) (c : Nat) (l : List Jb) (hln : l.length ≤ 40) (shb : Nat) (sa : Option Addr) (sc : Nat) (shop : List Int) (hsl : shop.length ≤ 140737488355328) (w0 : World) (hJ : JnIn a l w0 []) (hC : OldSl w0 [] (some ⟨shb, 0, none⟩) 1 1 [.slice sa shop.length sc]) : Sp Try.prog 32 [.slice a l.length c, .func (.func 44) #[] #[.pointer (some ⟨shb, 0, none⟩)]] w0 [] (RV (.bool (l.any ((fun x : Jb => decide (shop.length ≤ x.bench)))))) := by
  refine spec_enter Try.func32 rfl Try.ntmps32 rfl (Own.refl _) ?_
  simp only [argEnv]
  refine gc_seq <| gc_region <| gl_op <| op_rd rfl (rd_assign rfl) <| gl_nil <| gx_then <| gc_seq <| gc_region <| gl_op <| op_rd rfl (rd_move rfl) <| gl_op <| op_rd rfl (rd_move rfl) <| gl_op (op_call rfl (vf := []) (vc := []) rfl rfl Try.call49 (fun w1 ho => indexBen_ok a c l hln shb sa sc shop hsl w1 (hJ.at ho) (hC.at ho)) ?_)
  rintro _ _ ⟨r, rfl, rfl, hr⟩
  refine gl_op <| op_rd rfl (rd_geq rfl rfl) <| gl_op <| op_rd rfl (rd_assign rfl) <| gl_nil <| gx_then <| gc_ret <| gx_ret1 (.inl rfl) Try.results32 rfl [] (by decide) ?_
  refine ⟨congrArg Value.bool ?_, rfl⟩
  rw [Bool.eq_iff_iff, ← hr]; simp
set_option maxRecDepth 100000 in
set_option maxHeartbeats 1000000 in
theorem hours_ok (bp i : Nat) (w0 : World) : Sp Try.prog 61 [.pointer (some ⟨bp, 0, none⟩), natV i] w0 [] (fun v L => ∃ pcb icb, v = .func (.func 72) #[] #[.pointer (some ⟨pcb, 0, none⟩), .pointer (some ⟨icb, 0, none⟩)] ∧ L = [.blk icb [natV i] 3, .blk pcb [.pointer (some ⟨bp, 0, none⟩)] 73]) := by
  refine spec_enter Try.func61 rfl Try.ntmps61 rfl (Own.refl _) ?_
  simp only [argEnv]
  refine gc_seq <| gc_region <| gl_op (op_box rfl rfl rfl (fun b2 => ?_))
  refine gl_op (op_box rfl rfl rfl (fun b3 => ?_))
  refine gl_op <| op_rd rfl (rd_assign rfl) <| gl_nil <| gx_then <| gc_seq <| gc_region <| gl_op <| op_rd rfl (rd_makeFunc (fs := []) (cs := [.tmp 2, .tmp 3]) rfl rfl) <| gl_op <| op_rd rfl (rd_assign rfl) <| gl_nil <| gx_then <| gc_ret <| gx_ret1 (.inl rfl) Try.results61 rfl [0, 1] (by decide) ?_
  exact ⟨b2, b3, rfl, rfl⟩
end Go.Proofs.Ytafmcflggikbfaa
namespace Go.Proofs.Ytafmcflggikbfaa
open Go.Gv
open Go.RowKit
open Go.Sn
open Go.Wk
open Sx
namespace Sx
theorem cand_le {l : List Jb} (hj : JOk l) {p : Plc} (hpb : ∀ j, atN p j ≤ 100000) {i : Nat} (hi : i < l.length) : ∀ t ∈ cand l p i l.length, t ≤ 200000 := fun t ht => by
  rcases List.mem_cons.1 ht with rfl | ht
  · exact Nat.le_trans (aft_bdQ hj hpb hi) (by decide)
  · obtain ⟨q, hq, rfl⟩ := List.mem_map.1 ht
    have h1 := (hj.hrs q (List.mem_range.1 (List.mem_filter.1 hq).1)).2
    have h2 := hpb q
    unfold endP1
    omega
theorem srt_le {l : List Jb} (hj : JOk l) {p : Plc} (hpb : ∀ j, atN p j ≤ 100000) {i : Nat} (hi : i < l.length) {k t : Nat} (h : (srt (cand l p i l.length))[k]? = some t) : t ≤ 200000 :=
  cand_le hj hpb hi t ((srt_perm _).mem_iff.1 (List.mem_of_getElem? h))
/-- what the iterator needs of the caller's memory -/
def GH (sa : Option Addr) (sn sc : Nat) (a : Option Addr) (n c : Nat) (p : Plc) (qa qb : Option Nat) (ca cb bp pcb icb i : Nat) (L : List HL) : Prop :=
  ∃ v4 v5, HL.blk bp [.slice sa sn sc, .slice a n c, .slice (rowA qa) p.at_.length ca, .slice (rowA qb) p.is.length cb, v4, v5] 76 ∈ L ∧ HL.row 2 1 qa p.at_.length ca (p.at_.map natV) ∈ L ∧ HL.row 4 1 qb p.is.length cb (p.is.map boolV) ∈ L ∧ HL.blk pcb [.pointer (some ⟨bp, 0, none⟩)] 73 ∈ L ∧ HL.blk icb [natV i] 3 ∈ L
end Sx
open Sx
set_option maxRecDepth 100000 in
set_option maxHeartbeats 1000000 in
theorem hoursIt_ok (a : Option Addr) (c : Nat) (l : List Jb) (hj : JOk l) (sa : Option Addr) (sc : Nat) (shop : List Int) (hsl : shop.length ≤ 6) (p : Plc) (hla : p.at_.length = l.length) (hli : p.is.length = l.length) (hpb : ∀ j, atN p j ≤ 100000) (i : Nat) (x : Jb) (hx : l[i]? = some x) (hxs : x.bench < shop.length) (h7 : l.length ≤ 7) (qa qb : Option Nat) (ca cb bp pcb icb lb : Nat) (J Jx : Nat → List HL → Prop) (hG : ∀ k L, J k L → GH sa shop.length sc a l.length c p qa qb ca cb bp pcb icb i L) (w1 : World) (L : List HL) (hY : YOk Try.prog lb (freesL shop l p i).length (fun k => [natV ((freesL shop l p i).getD k 0)]) J Jx w1 (L.filterMap HL.block)) (h0 : J 0 L) (ho : Own w1 (L.filterMap HL.block) w1 L) (hJ : JnIn a l w1 (L.filterMap HL.block)) (hS : OldSl w1 (L.filterMap HL.block) sa shop.length 1 (shop.map intV)) : Sp Try.prog 72 [.func (.yield lb) #[] #[], .pointer (some ⟨pcb, 0, none⟩), .pointer (some ⟨icb, 0, none⟩)] w1 (L.filterMap HL.block) (fun _ L2 => J (freesL shop l p i).length L2 ∨ ∃ k, k < (freesL shop l p i).length ∧ Jx k L2) := by
  have hln := hj.n
  have hil := (List.getElem?_eq_some_iff.1 hx).1
  have hxh := job_le hj hx
  obtain ⟨s, hs⟩ := get_some hxs
  have hsb := sb_at hx hs
  have hbn := bn_at hx
  have hhr := hr_at hx
  obtain ⟨v4, v5, hg1, hg2, hg3, hg4, hg5⟩ := hG _ _ h0
  refine spec_enterM Try.func72 rfl Try.ntmps72 rfl ho ?_
  simp only [argEnv]
  refine rc_seq <| rc_drawT [] L [] true 10 rfl rfl rfl <| ga_first 0 (bm 11 1) rfl rfl rfl rfl (by kernel_rfl) (by kernel_rfl) (sub_tail (A := []) (B := []) (T := L) [] 0 (by decide) (by decide) rfl rfl) (qt_rd (rd_load Try.underlying73 rfl rfl (ld_mem hg4 rfl))) ?_
  refine ga_first 1 (bm 11 3) rfl rfl rfl rfl (by kernel_rfl) (by kernel_rfl) (sub_tail (A := []) (B := []) (T := L) [] 0 (by decide) (by decide) rfl rfl) (qt_rd (rd_nilCheck rfl)) ?_
  refine ga_first 2 (bm 11 7) rfl rfl rfl rfl (by kernel_rfl) (by kernel_rfl) (sub_tail (A := []) (B := []) (T := L) [] 0 (by decide) (by decide) rfl rfl) (qt_rd (rd_fieldAddr rfl (fa_76_1 _))) ?_
  refine ga_first 3 (bm 11 15) rfl rfl rfl rfl (by kernel_rfl) (by kernel_rfl) (sub_tail (A := []) (B := []) (T := L) [] 0 (by decide) (by decide) rfl rfl) (qt_rd (rd_load Try.underlying22 rfl rfl (ld_mem hg1 rfl))) ?_
  refine ga_first 4 (bm 11 31) rfl rfl rfl rfl (by kernel_rfl) (by kernel_rfl) (sub_tail (A := []) (B := []) (T := L) [] 0 (by decide) (by decide) rfl rfl) (qt_rd (rd_load Try.underlying73 rfl rfl (ld_mem hg4 rfl))) ?_
  refine ga_first 5 (bm 11 63) rfl rfl rfl rfl (by kernel_rfl) (by kernel_rfl) (sub_tail (A := []) (B := []) (T := L) [] 0 (by decide) (by decide) rfl rfl) (qt_rd (rd_nilCheck rfl)) ?_
  refine ga_first 6 (bm 11 127) rfl rfl rfl rfl (by kernel_rfl) (by kernel_rfl) (sub_tail (A := []) (B := []) (T := L) [] 0 (by decide) (by decide) rfl rfl) (qt_rd (rd_fieldAddr rfl (fa_76_2 _))) ?_
  refine ga_first 7 (bm 11 255) rfl rfl rfl rfl (by kernel_rfl) (by kernel_rfl) (sub_tail (A := []) (B := []) (T := L) [] 0 (by decide) (by decide) rfl rfl) (qt_rd (rd_load Try.underlying25 rfl rfl (ld_mem hg1 rfl))) ?_
  refine ga_first 8 (bm 11 511) rfl rfl rfl rfl (by kernel_rfl) (by kernel_rfl) (sub_tail (A := []) (B := []) (T := L) [] 0 (by decide) (by decide) rfl rfl) (qt_rd (rd_load Try.underlying3 rfl rfl (ld_mem hg5 rfl))) ?_
  refine ga_first 9 (bm 11 1023) rfl rfl rfl rfl (by kernel_rfl) (by kernel_rfl) (sub_tail (A := []) (B := []) (T := L) [] 0 (by decide) (by decide) rfl rfl) (qt_call (vf := []) (vc := []) rfl rfl Try.call41 (fun w2 how => afterN_ok a c l hj (rowA qa) ca p.at_ hla (fun t ht => Nat.le_trans (bd_of (g := p.at_) hpb t ht) (by decide)) i x hx w2 (hJ.at how) (slMem how hg2)) (by rintro _ _ ⟨h, _⟩; exact h)) ?_
  rw [show aft l p.at_ i = aftP1 l p i from rfl]
  refine ga_first 10 (bm 11 2047) rfl rfl rfl rfl (by kernel_rfl) (by kernel_rfl) (sub_tail (A := []) (B := []) (T := L) [] 0 (by decide) (by decide) rfl rfl) (qt_rd (rd_assign rfl)) ?_
  refine ga_end (by kernel_rfl) (.inr (sub_tail (A := []) (B := []) (T := L) [] 0 (by decide) (by decide) rfl rfl)) ?_
  refine gx_then <| rc_seq <| rc_region <| rl_op (by nofun) (op_rd rfl (rd_move rfl) ?_)
  refine rl_op (by nofun) (op_buildSlice (sz := 1) rfl rfl (fun _ => bs_25_1_0 _) rfl rfl (fun b22 => ?_))
  refine rl_op (by nofun) (op_rd rfl (rd_assign rfl) ?_)
  refine rl_nil <| gx_then <| rc_seq <| rc_seq ?_
  rw [show ([natV (aftP1 l p i)] : List Value) = (cand l p i 0).map natV from rfl]
  refine rc_region <| rl_op (by nofun) (op_rd rfl (rd_load Try.underlying73 rfl rfl (ld_mem (List.mem_cons_of_mem _ hg4) rfl)) ?_)
  refine rl_op (by nofun) (op_rd rfl (rd_nilCheck rfl) ?_)
  refine rl_op (by nofun) (op_rd rfl (rd_fieldAddr rfl (fa_76_1 _)) ?_)
  refine rl_op (by nofun) (op_rd rfl (rd_load Try.underlying22 rfl rfl (ld_mem (List.mem_cons_of_mem _ hg1) rfl)) ?_)
  refine rl_op (by nofun) (op_rd rfl (rd_lenSlice Try.underlying22 rfl) ?_)
  refine rl_op (by nofun) (op_rd rfl (rd_move rfl) ?_)
  refine rl_nil <| gx_then <| rc_block <| rc_loopF (ι := Nat × Option Nat × Nat) [(0, _), (1, _), (2, _), (4, _), (26, _), (27, _)] (L) (fun q => q.1 ≤ l.length) (fun q Fr0 => ((5, .slice (rowA q.2.1) (cand l p i q.1).length q.2.2) :: (28, natV q.1) :: Fr0)) (fun q Fr0 => (.row 2 1 q.2.1 (cand l p i q.1).length q.2.2 ((cand l p i q.1).map natV) :: Fr0)) (fun q => l.length - q.1) (0, some b22, 1) (Nat.zero_le _) ⟨rfl, rfl, rfl, rfl, rfl, rfl, rfl, rfl, trivial⟩ (sub_tail (A := [_]) (B := [_]) (T := L) [0] 1 (by decide) (by decide) rfl rfl) ?_
  rintro ⟨k, r9, c9⟩ hk
  simp only at hk ⊢
  have hcl := cand_len l p i k
  refine rc_seq <| rc_region <| rl_op (by nofun) (op_rd rfl (rd_lss rfl rfl) (gk_dec (fun h29 => ?_) (fun h29 => ?_)))
  · obtain ⟨z, hz⟩ := get_some (show k < l.length by omega)
    have hzh := job_le hj hz
    have hkb := hpb k
    have hen := end_at (p := p) hz
    refine rl_nil <| gx_then <| rc_seq <| rc_cond_t rfl <| rc_skip <| gx_then <| rc_seq <| rc_block <| rc_seq <| rc_region <| rl_op (by nofun) (op_rd rfl (rd_move rfl) ?_)
    refine rl_op (by nofun) (op_rd rfl (rd_indexOld hJ.t Try.underlying22 ty_48 rfl rfl (by omega) (by omega)) ?_)
    refine rl_op (by nofun) (op_rd rfl (rd_loadAgg Try.underlying48 rfl ty_48 rfl (cs_slN hJ.t (flat_drop_get Jb.cells 4 (fun _ => rfl) hz)) rfl) ?_)
    refine rl_op (by nofun) (op_alloc ty_48 rfl rfl (fun b7 => ?_))
    refine rl_op (by nofun) (op_rd rfl (rd_assign rfl) ?_)
    refine rl_op (by nofun) (op_storeAgg 0 ty_48 rfl rfl rfl rfl rfl rfl (by rfl) ?_)
    refine rl_nil <| gx_then <| rc_seq <| rc_drawT [_, _] L [0, 1] true 10 rfl rfl rfl <| ga_first 0 (bm 11 1) rfl rfl rfl rfl (by kernel_rfl) (by kernel_rfl) (sub_tail (A := [_, _]) (B := [_, _]) (T := L) [0, 1] 2 (by decide) (by decide) rfl rfl) (qt_rd (rd_load Try.underlying73 rfl rfl (ld_mem (List.mem_cons_of_mem _ (List.mem_cons_of_mem _ hg4)) rfl))) ?_
    refine ga_first 1 (bm 11 3) rfl rfl rfl rfl (by kernel_rfl) (by kernel_rfl) (sub_tail (A := [_, _]) (B := [_, _]) (T := L) [0, 1] 2 (by decide) (by decide) rfl rfl) (qt_rd (rd_nilCheck rfl)) ?_
    refine ga_first 2 (bm 11 7) rfl rfl rfl rfl (by kernel_rfl) (by kernel_rfl) (sub_tail (A := [_, _]) (B := [_, _]) (T := L) [0, 1] 2 (by decide) (by decide) rfl rfl) (qt_rd (rd_fieldAddr rfl (fa_76_2 _))) ?_
    refine ga_first 3 (bm 11 15) rfl rfl rfl rfl (by kernel_rfl) (by kernel_rfl) (sub_tail (A := [_, _]) (B := [_, _]) (T := L) [0, 1] 2 (by decide) (by decide) rfl rfl) (qt_rd (rd_load Try.underlying25 rfl rfl (ld_mem (List.mem_cons_of_mem _ (List.mem_cons_of_mem _ hg1)) rfl))) ?_
    refine ga_first 4 (bm 11 31) rfl rfl rfl rfl (by kernel_rfl) (by kernel_rfl) (sub_tail (A := [_, _]) (B := [_, _]) (T := L) [0, 1] 2 (by decide) (by decide) rfl rfl) (qt_rd (rd_move rfl)) ?_
    refine ga_first 5 (bm 11 63) rfl rfl rfl rfl (by kernel_rfl) (by kernel_rfl) (sub_tail (A := [_, _]) (B := [_, _]) (T := L) [0, 1] 2 (by decide) (by decide) rfl rfl) (qt_rd (rd_indexMem (List.mem_cons_of_mem _ (List.mem_cons_of_mem _ hg2)) Try.underlying25 ty_2 rfl rfl (by omega) (by omega))) ?_
    refine ga_first 6 (bm 11 127) rfl rfl rfl rfl (by kernel_rfl) (by kernel_rfl) (sub_tail (A := [_, _]) (B := [_, _]) (T := L) [0, 1] 2 (by decide) (by decide) rfl rfl) (qt_rd (rd_load Try.underlying2 rfl rfl (ld_memRow (List.mem_cons_of_mem _ (List.mem_cons_of_mem _ hg2)) (by rw [Nat.mul_one]; exact get_atQ (k := k) (by omega))))) ?_
    refine ga_first 7 (bm 11 255) rfl rfl rfl rfl (by kernel_rfl) (by kernel_rfl) (sub_tail (A := [_, _]) (B := [_, _]) (T := L) [0, 1] 2 (by decide) (by decide) rfl rfl) (qt_rd (rd_fieldAddr rfl (fa_48_2 _))) ?_
    refine ga_first 8 (bm 11 511) rfl rfl rfl rfl (by kernel_rfl) (by kernel_rfl) (sub_tail (A := [_, _]) (B := [_, _]) (T := L) [0, 1] 2 (by decide) (by decide) rfl rfl) (qt_rd (rd_load Try.underlying2 rfl rfl (by exact ld_blk 0 rfl rfl))) ?_
    refine ga_first 9 (bm 11 1023) rfl rfl rfl rfl (by kernel_rfl) (by kernel_rfl) (sub_tail (A := [_, _]) (B := [_, _]) (T := L) [0, 1] 2 (by decide) (by decide) rfl rfl) (qt_rd (by exact rd_addN rfl rfl (by omega))) ?_
    refine ga_first 10 (bm 11 2047) rfl rfl rfl rfl (by kernel_rfl) (by kernel_rfl) (sub_tail (A := [_, _]) (B := [_, _]) (T := L) [0, 1] 2 (by decide) (by decide) rfl rfl) (qt_rd (rd_assign rfl)) ?_
    refine ga_end (by kernel_rfl) (.inr (sub_tail (A := [_, _]) (B := [_, _]) (T := L) [0, 1] 2 (by decide) (by decide) rfl rfl)) ?_
    refine gx_then <| rc_seq ?_
    rw [← hen]
    refine rc_region <| rl_op (by nofun) (op_rd rfl (rd_load Try.underlying73 rfl rfl (ld_mem (List.mem_cons_of_mem _ (List.mem_cons_of_mem _ hg4)) rfl)) ?_)
    refine rl_op (by nofun) (op_rd rfl (rd_nilCheck rfl) ?_)
    refine rl_op (by nofun) (op_rd rfl (rd_fieldAddr rfl (fa_76_3 _)) ?_)
    refine rl_op (by nofun) (op_rd rfl (rd_load Try.underlying74 rfl rfl (ld_mem (List.mem_cons_of_mem _ (List.mem_cons_of_mem _ hg1)) rfl)) ?_)
    refine rl_op (by nofun) (op_rd rfl (rd_move rfl) ?_)
    refine rl_op (by nofun) (op_rd rfl (rd_indexMem (List.mem_cons_of_mem _ (List.mem_cons_of_mem _ hg3)) Try.underlying74 ty_4 rfl rfl (by omega) (by omega)) ?_)
    refine rl_op (by nofun) (op_rd rfl (rd_load Try.underlying4 rfl rfl (ld_memRow (List.mem_cons_of_mem _ (List.mem_cons_of_mem _ hg3)) (by rw [Nat.mul_one]; exact get_plQ (k := k) (by omega)))) ?_)
    refine gk_bool (fun h49 => ?_) (fun h49 => ?_)
    · refine rl_op (by nofun) (op_rd rfl (rd_move rfl) ?_)
      refine rl_yes (by nofun) rfl rfl (op_rd rfl (rd_move rfl) ?_)
      refine rl_yes (by nofun) rfl rfl (op_rd rfl (rd_move rfl) ?_)
      refine rl_yes (by nofun) rfl rfl (op_rd rfl (rd_gtr rfl rfl) (gk_dec (fun h53 => ?_) (fun h53 => ?_)))
      · refine rl_op (by nofun) (op_rd rfl (rd_pick_t rfl rfl) ?_)
        refine rl_nil <| gx_then <| rc_cond_t rfl <| rc_region <| rl_op (by nofun) (op_rd rfl (rd_move rfl) ?_)
        refine rl_op (by nofun) (op_rd rfl (rd_move rfl) ?_)
        refine rl_op (by nofun) (op_buildSlice (sz := 1) rfl rfl (fun _ => bs_25_1_0 _) rfl rfl (fun b57 => ?_))
        refine rl_op (by nofun) (op_appendRow 2 0 Try.underlying25 ty_2 rfl (by decide) rfl rfl rfl rfl rfl (by simp [Value.oneCell']) (by omega) (by omega) (fun _ => (by rfl)) (fun r58 c58 => ?_))
        refine rl_op (by nofun) (op_rd rfl (rd_assign rfl) ?_)
        refine rl_nil <| gx_block <| gx_then <| rc_region <| rl_op (by nofun) (op_rd rfl (by exact rd_addN (b := 1) rfl rfl (by omega)) ?_)
        refine rl_op (by nofun) (op_rd rfl (rd_move rfl) ?_)
        refine rl_nil <| gx_then ?_
        rw [show (cand l p i k).map natV ++ [natV (endP1 l p k)] = (cand l p i (k + 1)).map natV by rw [cand_yes h49 (by omega), List.map_append]; rfl]
        rw [show (cand l p i k).length + 1 = (cand l p i (k + 1)).length by rw [cand_yes h49 (by omega), List.length_append]; rfl]
        exact gx_cut ((k + 1, r58, c58)) ⟨(by simp only; omega), by simp only; omega⟩ ⟨rfl, rfl, rfl, rfl, rfl, rfl, rfl, rfl, trivial⟩ (sub_tail (A := [_]) (B := [_, _, _]) (T := L) [2] 3 (by decide) (by decide) rfl rfl)
      refine rl_op (by nofun) (op_rd rfl (rd_pick_t rfl rfl) ?_)
      refine rl_nil <| gx_then <| rc_cond_f rfl <| rc_skip <| gx_block <| gx_then <| rc_region <| rl_op (by nofun) (op_rd rfl (by exact rd_addN (b := 1) rfl rfl (by omega)) ?_)
      refine rl_op (by nofun) (op_rd rfl (rd_move rfl) ?_)
      refine rl_nil <| gx_then ?_
      rw [show cand l p i k = cand l p i (k + 1) from (cand_no (fun e => by omega)).symm]
      exact gx_cut ((k + 1, r9, c9)) ⟨(by simp only; omega), by simp only; omega⟩ ⟨rfl, rfl, rfl, rfl, rfl, rfl, rfl, rfl, trivial⟩ (sub_tail (A := [_]) (B := [_, _]) (T := L) [1] 2 (by decide) (by decide) rfl rfl)
    refine rl_op (by nofun) (op_rd rfl (rd_move rfl) ?_)
    refine rl_no rfl rfl rfl <| rl_no rfl rfl rfl <| rl_no rfl rfl rfl <| rl_op (by nofun) (op_rd rfl (rd_pick_f rfl rfl) ?_)
    refine rl_nil <| gx_then <| rc_cond_f rfl <| rc_skip <| gx_block <| gx_then <| rc_region <| rl_op (by nofun) (op_rd rfl (by exact rd_addN (b := 1) rfl rfl (by omega)) ?_)
    refine rl_op (by nofun) (op_rd rfl (rd_move rfl) ?_)
    refine rl_nil <| gx_then ?_
    rw [show cand l p i k = cand l p i (k + 1) from (cand_no (fun e => by rw [e.1] at h49; cases h49)).symm]
    exact gx_cut ((k + 1, r9, c9)) ⟨(by simp only; omega), by simp only; omega⟩ ⟨rfl, rfl, rfl, rfl, rfl, rfl, rfl, rfl, trivial⟩ (sub_tail (A := [_]) (B := [_, _]) (T := L) [1] 2 (by decide) (by decide) rfl rfl)
  have hk9 : k = l.length := by omega
  subst hk9
  have hs1 : 1 ≤ (cand l p i l.length).length := by unfold cand; simp
  refine rl_nil <| gx_then <| rc_seq <| rc_cond_f rfl <| rc_exit <| gx_then_exit <| gx_then_exit <| gx_block_exit <| gx_then <| rc_seq <| rc_region <| rl_op (by nofun) (op_rd rfl (rd_move rfl) ?_)
  refine rl_op (by nofun) (op_callMT [_] L [0] [] 1 rfl rfl rfl (vf := []) (vc := []) rfl rfl Try.call73 (by decide) (by decide) rfl (fun w2 how hc => sort_ok (cand l p i l.length) hs1 (by omega) r9 c9 w2 hc) ?_)
  rintro _ _ ⟨rfl, rfl⟩
  have hsl9 := srt_len (cand l p i l.length)
  refine rl_nil <| gx_then <| rc_seq <| rc_region <| rl_op (by nofun) (op_rd rfl (rd_move rfl) ?_)
  refine rl_op (by nofun) (op_rd rfl (rd_lenSlice Try.underlying25 rfl) ?_)
  refine rl_op (by nofun) (op_rd rfl (rd_move rfl) ?_)
  refine rl_nil <| gx_then <| rc_block <| rc_loopF (ι := Nat × Nat × List HL) [(0, _), (1, _), (2, _), (62, _), (63, _)] [_] (fun q => q.1 ≤ (cand l p i l.length).length ∧ J q.2.1 q.2.2 ∧ (freesL shop l p i).drop q.2.1 = ((srt (cand l p i l.length)).drop q.1).filter (freeB shop l p i) ∧ q.2.1 ≤ (freesL shop l p i).length) (fun q Fr0 => ((64, natV q.1) :: Fr0)) (fun q Fr0 => (Fr0 ++ q.2.2)) (fun q => (cand l p i l.length).length - q.1) (0, 0, L) (⟨Nat.zero_le _, h0, rfl, Nat.zero_le _⟩) ⟨rfl, rfl, rfl, rfl, rfl, rfl, trivial⟩ (sub_tail (A := [_]) (B := [_]) (T := L) [0] 1 (by decide) (by decide) rfl rfl) ?_
  rintro ⟨k9, j, T⟩ ⟨hk9, hJT, hdr, hjl0⟩
  simp only at hk9 hJT hdr hjl0 ⊢
  obtain ⟨u4, u5, hk1, hk2, hk3, hk4, hk5⟩ := hG _ _ hJT
  refine rc_seq <| rc_region <| rl_op (by nofun) (op_rd rfl (rd_lss rfl rfl) (gk_dec (fun h65 => ?_) (fun h65 => ?_)))
  · obtain ⟨t9, hx9⟩ := get_some (show k9 < (srt (cand l p i l.length)).length by omega)
    have ht9 := srt_le hj hpb hil hx9
    refine rl_nil <| gx_then <| rc_seq <| rc_cond_t rfl <| rc_skip <| gx_then <| rc_seq <| rc_block <| rc_seq <| rc_region <| rl_op (by nofun) (op_rd rfl (rd_indexRow1 0 rfl Try.underlying25 ty_2 rfl rfl (by omega) (by omega)) ?_)
    refine rl_op (by nofun) (op_rd rfl (rd_load Try.underlying2 rfl rfl (ld_rowN 0 rfl (get_nat hx9))) ?_)
    refine rl_op (by nofun) (op_rd rfl (rd_assign rfl) ?_)
    refine rl_nil <| gx_then <| rc_seq <| rc_region <| rl_op (by nofun) (op_rd rfl (rd_load Try.underlying73 rfl rfl (ld_mem (List.mem_cons_of_mem _ hk4) rfl)) ?_)
    refine rl_op (by nofun) (op_rd rfl (rd_load Try.underlying3 rfl rfl (ld_mem (List.mem_cons_of_mem _ hk5) rfl)) ?_)
    refine rl_op (by nofun) (op_rd rfl (rd_move rfl) ?_)
    refine rl_op (by nofun) (op_call rfl (vf := []) (vc := []) rfl rfl Try.call74 (fun w2 how => free_ok a c l hj sa sc shop hsl p hla hli hpb i x hx hxs t9 ht9 (rowA qa) ca (rowA qb) cb w2 (hJ.at how) (hS.at how) (slMem how (List.mem_cons_of_mem _ hk2)) (slMem how (List.mem_cons_of_mem _ hk3)) bp u4 u5 (blkMem how 6 rfl (List.mem_cons_of_mem _ hk1))) ?_)
    rintro _ _ ⟨rfl, rfl⟩
    refine gk_bool (fun hfr => ?_) (fun hfr => ?_)
    · refine rl_op (by nofun) (op_rd rfl (rd_move rfl) ?_)
      refine rl_yes (by nofun) rfl rfl (op_rd rfl (rd_move rfl) ?_)
      refine rl_yes (by nofun) rfl rfl (op_rd rfl (rd_move rfl) ?_)
      obtain ⟨hjl, hjd, hjr⟩ := drop_cons (hdr.trans (filt_yes hx9 hfr))
      refine rl_yesI rfl rfl (op_yield [_] T hY hjl hJT rfl rfl rfl (congrArg (fun z => some [natV z]) hjd.symm) (fun T2 hJ2 => ?_) (fun T2 hJ2 => ?_))
      · refine rl_yes (by nofun) rfl rfl (op_rd rfl (rd_not rfl) ?_)
        refine rl_op (by nofun) (op_rd rfl (rd_pick_t rfl rfl) ?_)
        refine rl_nil <| gx_then <| rc_cond_f rfl <| rc_skip <| gx_block <| gx_then <| rc_region <| rl_op (by nofun) (op_rd rfl (by exact rd_addN (b := 1) rfl rfl (by omega)) ?_)
        refine rl_op (by nofun) (op_rd rfl (rd_move rfl) ?_)
        refine rl_nil <| gx_then ?_
        exact gx_cut ((k9 + 1, j + 1, T2)) ⟨⟨by simp only; omega, hJ2, hjr, by simp only; omega⟩, by simp only; omega⟩ ⟨rfl, rfl, rfl, rfl, rfl, rfl, trivial⟩ (sub_tail (A := [_]) (B := [_]) (T := T2) [0] 1 (by decide) (by decide) rfl rfl)
      refine rl_yes (by nofun) rfl rfl (op_rd rfl (rd_not rfl) ?_)
      refine rl_op (by nofun) (op_rd rfl (rd_pick_t rfl rfl) ?_)
      refine rl_nil <| gx_then <| rc_cond_t rfl <| rc_ret <| gx_block_ret <| gx_then_ret <| gx_then_ret <| gx_block_ret <| gx_retM0 [] (.inl rfl) Try.results72 (sub_tail (A := []) (B := [_]) (T := T2) [] 1 (by decide) (by decide) rfl rfl) ?_
      exact .inr ⟨j, hjl, hJ2⟩
    refine rl_op (by nofun) (op_rd rfl (rd_move rfl) ?_)
    refine rl_no rfl rfl rfl <| rl_no rfl rfl rfl <| rl_no rfl rfl rfl <| rl_no rfl rfl rfl <| rl_op (by nofun) (op_rd rfl (rd_pick_f rfl rfl) ?_)
    refine rl_nil <| gx_then <| rc_cond_f rfl <| rc_skip <| gx_block <| gx_then <| rc_region <| rl_op (by nofun) (op_rd rfl (by exact rd_addN (b := 1) rfl rfl (by omega)) ?_)
    refine rl_op (by nofun) (op_rd rfl (rd_move rfl) ?_)
    refine rl_nil <| gx_then ?_
    exact gx_cut ((k9 + 1, j, T)) ⟨⟨by simp only; omega, hJT, hdr.trans (filt_no hx9 hfr), hjl0⟩, by simp only; omega⟩ ⟨rfl, rfl, rfl, rfl, rfl, rfl, trivial⟩ (sub_tail (A := [_]) (B := [_]) (T := T) [0] 1 (by decide) (by decide) rfl rfl)
  refine rl_nil <| gx_then <| rc_seq <| rc_cond_f rfl <| rc_exit <| gx_then_exit <| gx_then_exit <| gx_block_exit <| gx_retM0 [] (.inr rfl) Try.results72 (sub_tail (A := []) (B := [_]) (T := T) [] 1 (by decide) (by decide) rfl rfl) ?_
  have hj9 : j = (freesL shop l p i).length := by
    rw [show (srt (cand l p i l.length)).drop k9 = [] from List.drop_eq_nil_of_le (by omega), List.filter_nil] at hdr
    have := List.length_drop (i := j) (l := freesL shop l p i)
    rw [hdr] at this
    simp at this; omega
  exact .inl (hj9 ▸ hJT)
end Go.Proofs.Ytafmcflggikbfaa
