import Derived.Test.YteocjpnckciboaaRg
import Derived.Test.YteocjpnckciboaaPl
import Derived.Test.YteocjpnckciboaaNexts
import Derived.Test.YteocjpnckciboaaMd
/- The walks of Run, Settle, Race, twice; what they say in plain Lean; the walks of three laws. -/
set_option linter.unusedSimpArgs false
set_option linter.unusedVariables false
set_option linter.unnecessarySimpa false
set_option autoImplicit false
set_option linter.unusedVariables false
namespace Go.Proofs.Yteocjpnckciboaa
open Go.Gv
open Go.RowKit
open Ry
set_option maxRecDepth 100000 in
set_option maxHeartbeats 1000000 in
theorem rRace_ok (c : Circ) (st inn : Int) (w0 : World) (hc : c.In w0 []) (hst : st ≤ 9223372036854775807) (hin : inn ≤ 9223372036854775807) : Sp Try.prog 35 [c.val, .int .i64 st, .int .i64 inn] w0 [] (fun v l => ∃ ra ca rb cb, v = .tuple #[.agg #[natV (raceR c st inn).1.kind, .slice (rowA ra) (raceR c st inn).1.a.length ca, .slice (rowA rb) (raceR c st inn).1.b.length cb], .int .i64 (raceR c st inn).2] ∧ l = [.row 3 1 ra (raceR c st inn).1.a.length ca ((raceR c st inn).1.a.map natV), .row 3 1 rb (raceR c st inn).1.b.length cb ((raceR c st inn).1.b.map natV)]) := by
  refine spec_enter Try.func35 rfl Try.ntmps35 rfl (Own.refl _) ?_
  simp only [argEnv]
  refine gc_seq ?_
  refine gc_region ?_
  refine gl_op (op_box rfl rfl rfl (fun b3 => ?_))
  refine gl_op (op_alloc ty_40 rfl rfl (fun b6 => ?_))
  refine gl_op (op_rd rfl (rd_assign rfl) ?_)
  refine gl_nil ?_
  refine gx_then ?_
  refine gc_seq ?_
  refine gc_region ?_
  refine gl_op (op_rd rfl (rd_loadAgg Try.underlying25 rfl ty_25 rfl (by first | exact cs_blk 0 (off := 0) (k := 3) rfl rfl | exact cs_blk 1 (off := 0) (k := 3) rfl rfl | exact cs_old (by assumption) (by simp)) rfl) ?_)
  refine gl_op (op_rd rfl (rd_move rfl) ?_)
  refine gl_op (op_rd rfl (rd_move rfl) ?_)
  refine gl_op (op_call rfl (vf := []) (vc := []) rfl rfl Try.call61 (fun w ho => rexplore_ok c st inn w (hc.at ho) hst hin) ?_)
  rintro _ _ (⟨hr, ns, rs, cs, rf, cf, rg, cg, bp, hre, rfl, rfl⟩ | ⟨hr, hre, rfl, rfl⟩ | ⟨hr, rfl, rfl⟩)
  · skip
    obtain ⟨hck, h1, h2, h3, h4⟩ := Circ.of_ready hr
    have hgd := Circ.good hck
    obtain ⟨sn, rfl⟩ : ∃ n : Nat, st = n := ⟨st.toNat, by omega⟩
    obtain ⟨im, rfl⟩ : ∃ n : Nat, inn = n := ⟨inn.toNat, by omega⟩
    have hre2 := hre
    simp only [Int.toNat_natCast] at h2 h4 hre2 ⊢
    have hrg := rgr_of hgd h2 hre2
    have hgr := hrg.gr
    have hlen := hgr.len
    refine gl_op (op_rd rfl (rd_move rfl) ?_)
    refine gl_op (op_rd rfl (rd_extract rfl rfl) ?_)
    refine gl_op (op_rd rfl (rd_extract rfl rfl) ?_)
    refine gl_op (op_alloc ty_91 rfl rfl (fun b8 => ?_))
    first | refine gl_op (op_storeAgg 0 ty_91 rfl rfl rfl rfl rfl rfl (by first | rfl | (simp only [List.set_cons_succ, List.set_cons_zero]; exact rfl)) ?_) | refine gl_op (op_storeAgg 5 ty_91 rfl rfl rfl rfl rfl rfl (by first | rfl | (simp only [List.set_cons_succ, List.set_cons_zero]; exact rfl)) ?_) | refine gl_op (op_storeAgg 6 ty_91 rfl rfl rfl rfl rfl rfl (by first | rfl | (simp only [List.set_cons_succ, List.set_cons_zero]; exact rfl)) ?_)
    refine gl_op (op_rd rfl (rd_assign rfl) ?_)
    refine gl_nil ?_
    refine gx_then ?_
    refine gc_seq ?_
    refine gc_seq ?_
    refine gc_region ?_
    refine gl_op (op_rd rfl (rd_move rfl) ?_)
    refine gl_op (op_rd rfl (rd_neq rfl rfl) (gk_dec (fun he => ?_) (fun he => ?_)))
    · skip
      exact absurd he (by simp)
    · skip
      refine gl_nil ?_
      refine gx_then ?_
      refine gc_cond_f rfl ?_
      refine gc_skip ?_
      refine gx_then ?_
      refine gc_seq ?_
      refine gc_region ?_
      refine gl_op (op_rd rfl (rd_loadAgg Try.underlying25 rfl ty_25 rfl (by first | exact cs_blk 0 (off := 0) (k := 3) rfl rfl | exact cs_blk 5 (off := 0) (k := 3) rfl rfl | exact cs_blk 6 (off := 0) (k := 3) rfl rfl | exact cs_old (by assumption) (by simp)) rfl) ?_)
      refine gl_op (op_rd rfl (rd_loadAgg Try.underlying91 rfl ty_91 rfl (by first | exact cs_blk 0 (off := 0) (k := 4) rfl rfl | exact cs_blk 5 (off := 0) (k := 4) rfl rfl | exact cs_blk 6 (off := 0) (k := 4) rfl rfl | exact cs_old (by assumption) (by simp)) rfl) ?_)
      refine gl_op (op_rd rfl (rd_move rfl) ?_)
      refine gl_op (op_call rfl (vf := []) (vc := []) rfl rfl Try.call62 (fun w ho => rrace_ok c im ns ⟨rowA rs, cs, rowA rf, cf, rowA rg, cg, rowA (some bp)⟩ w (RIn.mk' ho 1 2 3 4 rfl rfl rfl rfl) (hc.at ho) hgd h4 hrg) ?_)
      rintro _ _ ⟨ra, ca, rb, cb, rfl, rfl⟩
      first | refine gl_op (op_storeAgg 2 ty_40 rfl rfl rfl rfl rfl rfl (by first | rfl | (simp only [List.set_cons_succ, List.set_cons_zero]; exact rfl)) ?_) | refine gl_op (op_storeAgg 7 ty_40 rfl rfl rfl rfl rfl rfl (by first | rfl | (simp only [List.set_cons_succ, List.set_cons_zero]; exact rfl)) ?_) | refine gl_op (op_storeAgg 8 ty_40 rfl rfl rfl rfl rfl rfl (by first | rfl | (simp only [List.set_cons_succ, List.set_cons_zero]; exact rfl)) ?_)
      refine gl_op (op_rd rfl (rd_assign rfl) ?_)
      refine gl_nil ?_
      refine gx_then ?_
      refine gc_ret ?_
      refine gx_retV2 (.inl rfl) Try.results35 (rv_agg Try.underlying40 rfl ty_40 rfl (by rfl) (cs_blk 7 (off := 0) (k := 3) rfl rfl)) (rv_tmp rfl) [0, 1] (by decide) ?_
      rw [raceR_ok hr hre]
      simp only [Int.toNat_natCast]
      exact ⟨ra, ca, rb, cb, rfl, rfl⟩
  · skip
    refine gl_op (op_rd rfl (rd_move rfl) ?_)
    refine gl_op (op_rd rfl (rd_extract rfl rfl) ?_)
    refine gl_op (op_rd rfl (rd_extract rfl rfl) ?_)
    refine gl_op (op_alloc ty_91 rfl rfl (fun b8 => ?_))
    first | refine gl_op (op_storeAgg 0 ty_91 rfl rfl rfl rfl rfl rfl (by first | rfl | (simp only [List.set_cons_succ, List.set_cons_zero]; exact rfl)) ?_) | refine gl_op (op_storeAgg 1 ty_91 rfl rfl rfl rfl rfl rfl (by first | rfl | (simp only [List.set_cons_succ, List.set_cons_zero]; exact rfl)) ?_) | refine gl_op (op_storeAgg 2 ty_91 rfl rfl rfl rfl rfl rfl (by first | rfl | (simp only [List.set_cons_succ, List.set_cons_zero]; exact rfl)) ?_)
    refine gl_op (op_rd rfl (rd_assign rfl) ?_)
    refine gl_nil ?_
    refine gx_then ?_
    refine gc_seq ?_
    refine gc_seq ?_
    refine gc_region ?_
    refine gl_op (op_rd rfl (rd_move rfl) ?_)
    refine gl_op (op_rd rfl (rd_neq rfl rfl) (gk_dec (fun he => ?_) (fun he => ?_)))
    · skip
      refine gl_nil ?_
      refine gx_then ?_
      refine gc_cond_t rfl ?_
      refine gc_seq ?_
      refine gk_nil 3 1 ?_
      refine gk_nil 3 1 ?_
      refine gc_region ?_
      refine gl_op (op_rd rfl (rd_build rfl (fun _ => bd_40_)) ?_)
      refine gl_op (op_rd rfl (rd_move rfl) ?_)
      first | refine gl_op (op_storeAgg 2 ty_40 rfl rfl rfl rfl rfl rfl (by first | rfl | (simp only [List.set_cons_succ, List.set_cons_zero]; exact rfl)) ?_) | refine gl_op (op_storeAgg 3 ty_40 rfl rfl rfl rfl rfl rfl (by first | rfl | (simp only [List.set_cons_succ, List.set_cons_zero]; exact rfl)) ?_) | refine gl_op (op_storeAgg 4 ty_40 rfl rfl rfl rfl rfl rfl (by first | rfl | (simp only [List.set_cons_succ, List.set_cons_zero]; exact rfl)) ?_)
      refine gl_op (op_rd rfl (rd_assign rfl) ?_)
      refine gl_nil ?_
      refine gx_then ?_
      refine gc_ret ?_
      refine gx_then_ret ?_
      refine gx_retV2 (.inl rfl) Try.results35 (rv_agg Try.underlying40 rfl ty_40 rfl (by rfl) (cs_blk 3 (off := 0) (k := 3) rfl rfl)) (rv_tmp rfl) [0, 1] (by decide) ?_
      rw [raceR_full hr hre]
      exact ⟨none, 0, none, 0, rfl, rfl⟩
    · skip
      exact absurd he (by simp)
  · skip
    refine gl_op (op_rd rfl (rd_move rfl) ?_)
    refine gl_op (op_rd rfl (rd_extract rfl rfl) ?_)
    refine gl_op (op_rd rfl (rd_extract rfl rfl) ?_)
    refine gl_op (op_alloc ty_91 rfl rfl (fun b8 => ?_))
    first | refine gl_op (op_storeAgg 0 ty_91 rfl rfl rfl rfl rfl rfl (by first | rfl | (simp only [List.set_cons_succ, List.set_cons_zero]; exact rfl)) ?_) | refine gl_op (op_storeAgg 1 ty_91 rfl rfl rfl rfl rfl rfl (by first | rfl | (simp only [List.set_cons_succ, List.set_cons_zero]; exact rfl)) ?_) | refine gl_op (op_storeAgg 2 ty_91 rfl rfl rfl rfl rfl rfl (by first | rfl | (simp only [List.set_cons_succ, List.set_cons_zero]; exact rfl)) ?_)
    refine gl_op (op_rd rfl (rd_assign rfl) ?_)
    refine gl_nil ?_
    refine gx_then ?_
    refine gc_seq ?_
    refine gc_seq ?_
    refine gc_region ?_
    refine gl_op (op_rd rfl (rd_move rfl) ?_)
    refine gl_op (op_rd rfl (rd_neq rfl rfl) (gk_dec (fun he => ?_) (fun he => ?_)))
    · skip
      refine gl_nil ?_
      refine gx_then ?_
      refine gc_cond_t rfl ?_
      refine gc_seq ?_
      refine gk_nil 3 1 ?_
      refine gk_nil 3 1 ?_
      refine gc_region ?_
      refine gl_op (op_rd rfl (rd_build rfl (fun _ => bd_40_)) ?_)
      refine gl_op (op_rd rfl (rd_move rfl) ?_)
      first | refine gl_op (op_storeAgg 2 ty_40 rfl rfl rfl rfl rfl rfl (by first | rfl | (simp only [List.set_cons_succ, List.set_cons_zero]; exact rfl)) ?_) | refine gl_op (op_storeAgg 3 ty_40 rfl rfl rfl rfl rfl rfl (by first | rfl | (simp only [List.set_cons_succ, List.set_cons_zero]; exact rfl)) ?_) | refine gl_op (op_storeAgg 4 ty_40 rfl rfl rfl rfl rfl rfl (by first | rfl | (simp only [List.set_cons_succ, List.set_cons_zero]; exact rfl)) ?_)
      refine gl_op (op_rd rfl (rd_assign rfl) ?_)
      refine gl_nil ?_
      refine gx_then ?_
      refine gc_ret ?_
      refine gx_then_ret ?_
      refine gx_retV2 (.inl rfl) Try.results35 (rv_agg Try.underlying40 rfl ty_40 rfl (by rfl) (cs_blk 3 (off := 0) (k := 3) rfl rfl)) (rv_tmp rfl) [0, 1] (by decide) ?_
      rw [raceR_bad hr]
      exact ⟨none, 0, none, 0, rfl, rfl⟩
    · skip
      exact absurd he (by simpa using hr)

set_option maxRecDepth 100000 in
set_option maxHeartbeats 1000000 in
theorem rSettle_ok (c : Circ) (st inn : Int) (w0 : World) (hc : c.In w0 []) (hst : st ≤ 9223372036854775807) (hin : inn ≤ 9223372036854775807) : Sp Try.prog 36 [c.val, .int .i64 st, .int .i64 inn] w0 [] (RV (.tuple #[natV (settleR c st inn).1, .int .i64 (settleR c st inn).2])) := by
  refine spec_enter Try.func36 rfl Try.ntmps36 rfl (Own.refl _) ?_
  simp only [argEnv]
  refine gc_seq ?_
  refine gc_region ?_
  refine gl_op (op_box rfl rfl rfl (fun b3 => ?_))
  refine gl_op (op_rd rfl (rd_assign rfl) ?_)
  refine gl_op (op_rd rfl (rd_assign rfl) ?_)
  refine gl_nil ?_
  refine gx_then ?_
  refine gc_seq ?_
  refine gc_region ?_
  refine gl_op (op_rd rfl (rd_loadAgg Try.underlying25 rfl ty_25 rfl (by first | exact cs_blk 0 (off := 0) (k := 3) rfl rfl | exact cs_old (by assumption) (by simp)) rfl) ?_)
  refine gl_op (op_rd rfl (rd_move rfl) ?_)
  refine gl_op (op_rd rfl (rd_move rfl) ?_)
  refine gl_op (op_call rfl (vf := []) (vc := []) rfl rfl Try.call61 (fun w ho => rexplore_ok c st inn w (hc.at ho) hst hin) ?_)
  rintro _ _ (⟨hr, ns, rs, cs, rf, cf, rg, cg, bp, hre, rfl, rfl⟩ | ⟨hr, hre, rfl, rfl⟩ | ⟨hr, rfl, rfl⟩)
  · skip
    obtain ⟨hck, h1, h2, h3, h4⟩ := Circ.of_ready hr
    have hgd := Circ.good hck
    obtain ⟨sn, rfl⟩ : ∃ n : Nat, st = n := ⟨st.toNat, by omega⟩
    obtain ⟨im, rfl⟩ : ∃ n : Nat, inn = n := ⟨inn.toNat, by omega⟩
    have hre2 := hre
    simp only [Int.toNat_natCast] at h2 h4 hre2 ⊢
    have hrg := rgr_of hgd h2 hre2
    have hgr := hrg.gr
    have hlen := hgr.len
    refine gl_op (op_rd rfl (rd_move rfl) ?_)
    refine gl_op (op_rd rfl (rd_extract rfl rfl) ?_)
    refine gl_op (op_rd rfl (rd_extract rfl rfl) ?_)
    refine gl_op (op_alloc ty_91 rfl rfl (fun b8 => ?_))
    first | refine gl_op (op_storeAgg 0 ty_91 rfl rfl rfl rfl rfl rfl (by first | rfl | (simp only [List.set_cons_succ, List.set_cons_zero]; exact rfl)) ?_) | refine gl_op (op_storeAgg 5 ty_91 rfl rfl rfl rfl rfl rfl (by first | rfl | (simp only [List.set_cons_succ, List.set_cons_zero]; exact rfl)) ?_)
    refine gl_op (op_rd rfl (rd_assign rfl) ?_)
    refine gl_nil ?_
    refine gx_then ?_
    refine gc_seq ?_
    refine gc_seq ?_
    refine gc_region ?_
    refine gl_op (op_rd rfl (rd_move rfl) ?_)
    refine gl_op (op_rd rfl (rd_neq rfl rfl) (gk_dec (fun he => ?_) (fun he => ?_)))
    · skip
      exact absurd he (by simp)
    · skip
      refine gl_nil ?_
      refine gx_then ?_
      refine gc_cond_f rfl ?_
      refine gc_skip ?_
      refine gx_then ?_
      refine gc_seq ?_
      refine gc_region ?_
      refine gl_op (op_rd rfl (rd_loadAgg Try.underlying25 rfl ty_25 rfl (by first | exact cs_blk 0 (off := 0) (k := 3) rfl rfl | exact cs_blk 5 (off := 0) (k := 3) rfl rfl | exact cs_old (by assumption) (by simp)) rfl) ?_)
      refine gl_op (op_rd rfl (rd_loadAgg Try.underlying91 rfl ty_91 rfl (by first | exact cs_blk 0 (off := 0) (k := 4) rfl rfl | exact cs_blk 5 (off := 0) (k := 4) rfl rfl | exact cs_old (by assumption) (by simp)) rfl) ?_)
      refine gl_op (op_rd rfl (rd_move rfl) ?_)
      obtain ⟨sv, hsv⟩ : ∃ s : Nat × Int, settleR c sn im = s := ⟨_, rfl⟩
      have hsv2 : (if (raceP c im ns).kind = 0 then Value.tuple #[natV (settledP c im ns), .int .i64 0] else .tuple #[.int .i64 0, .int .i64 9]) = .tuple #[natV sv.1, .int .i64 sv.2] := by
        by_cases hk : (raceP c im ns).kind = 0
        · rw [if_pos hk, ← hsv, settleR_ok hr hre (by simpa using hk)]; simp
        · rw [if_neg hk, ← hsv, settleR_race hr hre (by simpa using hk)]; rfl
      refine gl_op (op_call rfl (vf := []) (vc := []) rfl rfl Try.call63 (fun w ho => Sp.mono (rsettle_ok c im ns ⟨rowA rs, cs, rowA rf, cf, rowA rg, cg, rowA (some bp)⟩ w (RIn.mk' ho 1 2 3 4 rfl rfl rfl rfl) (hc.at ho) hgd h4 hrg) (fun v l h => show v = .tuple #[natV sv.1, .int .i64 sv.2] ∧ l = [] from ⟨h.1.trans hsv2, h.2⟩)) ?_)
      rintro _ _ ⟨rfl, rfl⟩
      refine gl_op (op_rd rfl (rd_extract rfl rfl) ?_)
      refine gl_op (op_rd rfl (rd_extract rfl rfl) ?_)
      refine gl_op (op_rd rfl (rd_assign rfl) ?_)
      refine gl_op (op_rd rfl (rd_assign rfl) ?_)
      refine gl_nil ?_
      refine gx_then ?_
      refine gc_ret ?_
      refine gx_ret2 (.inl rfl) Try.results36 rfl rfl [] (by decide) ?_
      rw [hsv]
      exact ⟨rfl, rfl⟩
  · skip
    refine gl_op (op_rd rfl (rd_move rfl) ?_)
    refine gl_op (op_rd rfl (rd_extract rfl rfl) ?_)
    refine gl_op (op_rd rfl (rd_extract rfl rfl) ?_)
    refine gl_op (op_alloc ty_91 rfl rfl (fun b8 => ?_))
    first | refine gl_op (op_storeAgg 0 ty_91 rfl rfl rfl rfl rfl rfl (by first | rfl | (simp only [List.set_cons_succ, List.set_cons_zero]; exact rfl)) ?_) | refine gl_op (op_storeAgg 1 ty_91 rfl rfl rfl rfl rfl rfl (by first | rfl | (simp only [List.set_cons_succ, List.set_cons_zero]; exact rfl)) ?_)
    refine gl_op (op_rd rfl (rd_assign rfl) ?_)
    refine gl_nil ?_
    refine gx_then ?_
    refine gc_seq ?_
    refine gc_seq ?_
    refine gc_region ?_
    refine gl_op (op_rd rfl (rd_move rfl) ?_)
    refine gl_op (op_rd rfl (rd_neq rfl rfl) (gk_dec (fun he => ?_) (fun he => ?_)))
    · skip
      refine gl_nil ?_
      refine gx_then ?_
      refine gc_cond_t rfl ?_
      refine gc_seq ?_
      refine gc_region ?_
      refine gl_op (op_rd rfl (rd_move rfl) ?_)
      refine gl_op (op_rd rfl (rd_assign rfl) ?_)
      refine gl_op (op_rd rfl (rd_assign rfl) ?_)
      refine gl_nil ?_
      refine gx_then ?_
      refine gc_ret ?_
      refine gx_then_ret ?_
      refine gx_ret2 (.inl rfl) Try.results36 rfl rfl [] (by decide) ?_
      exact ⟨by rw [settleR_full hr hre]; rfl, rfl⟩
    · skip
      exact absurd he (by simp)
  · skip
    refine gl_op (op_rd rfl (rd_move rfl) ?_)
    refine gl_op (op_rd rfl (rd_extract rfl rfl) ?_)
    refine gl_op (op_rd rfl (rd_extract rfl rfl) ?_)
    refine gl_op (op_alloc ty_91 rfl rfl (fun b8 => ?_))
    first | refine gl_op (op_storeAgg 0 ty_91 rfl rfl rfl rfl rfl rfl (by first | rfl | (simp only [List.set_cons_succ, List.set_cons_zero]; exact rfl)) ?_) | refine gl_op (op_storeAgg 1 ty_91 rfl rfl rfl rfl rfl rfl (by first | rfl | (simp only [List.set_cons_succ, List.set_cons_zero]; exact rfl)) ?_)
    refine gl_op (op_rd rfl (rd_assign rfl) ?_)
    refine gl_nil ?_
    refine gx_then ?_
    refine gc_seq ?_
    refine gc_seq ?_
    refine gc_region ?_
    refine gl_op (op_rd rfl (rd_move rfl) ?_)
    refine gl_op (op_rd rfl (rd_neq rfl rfl) (gk_dec (fun he => ?_) (fun he => ?_)))
    · skip
      refine gl_nil ?_
      refine gx_then ?_
      refine gc_cond_t rfl ?_
      refine gc_seq ?_
      refine gc_region ?_
      refine gl_op (op_rd rfl (rd_move rfl) ?_)
      refine gl_op (op_rd rfl (rd_assign rfl) ?_)
      refine gl_op (op_rd rfl (rd_assign rfl) ?_)
      refine gl_nil ?_
      refine gx_then ?_
      refine gc_ret ?_
      refine gx_then_ret ?_
      refine gx_ret2 (.inl rfl) Try.results36 rfl rfl [] (by decide) ?_
      exact ⟨by rw [settleR_bad hr]; rfl, rfl⟩
    · skip
      exact absurd he (by simpa using hr)

set_option maxRecDepth 100000 in
set_option maxHeartbeats 1000000 in
theorem Run_ok (c : Circ) (st : Int) (ins : List Int) (a : Option Addr) (icp : Nat) (w0 : World) (hc : c.In w0 []) (hst : st ≤ 9223372036854775807) (hsl : OldSl w0 [] a ins.length 1 (ins.map intV)) (hins : ∀ z ∈ ins, z ≤ 9223372036854775807) (hil : ins.length ≤ 1000) : Sp Try.prog 31 [c.val, .int .i64 st, .slice a ins.length icp] w0 [] (fun v l => ∃ r cp, v = .tuple #[.slice (rowA r) (runR c st ins).1.length cp, .int .i64 (runR c st ins).2] ∧ l = [.row 3 1 r (runR c st ins).1.length cp ((runR c st ins).1.map natV)]) := by
  refine spec_enter Try.func31 rfl Try.ntmps31 rfl (Own.refl _) ?_
  simp only [argEnv]
  refine gc_seq ?_
  refine gc_region ?_
  refine gl_op (op_box rfl rfl rfl (fun b3 => ?_))
  refine gl_op (op_rd rfl (rd_assign rfl) ?_)
  refine gl_op (op_rd rfl (rd_assign rfl) ?_)
  refine gl_nil ?_
  refine gx_then ?_
  refine gc_seq ?_
  refine gc_region ?_
  refine gl_op (op_rd rfl (rd_move rfl) ?_)
  refine gl_op (op_call rfl (vf := []) (vc := []) rfl rfl Try.call45 (fun w ho => lay_ok c ⟨b3, 0, none⟩ st 0 w (hc.at ho) (ho.blkCells 0 rfl) hst (by decide)) ?_)
  rintro _ _ (⟨hr9, b9, rfl, rfl⟩ | ⟨hr9, rfl, rfl⟩)
  · skip
    refine gl_op (op_rd rfl (rd_move rfl) ?_)
    refine gl_op (op_rd rfl (rd_extract rfl rfl) ?_)
    refine gl_op (op_rd rfl (rd_extract rfl rfl) ?_)
    refine gl_op (op_rd rfl (rd_assign rfl) ?_)
    refine gl_op (op_rd rfl (rd_assign rfl) ?_)
    refine gl_nil ?_
    refine gx_then ?_
    refine gc_seq ?_
    refine gc_seq ?_
    refine gc_region ?_
    refine gl_op (op_rd rfl (rd_move rfl) ?_)
    refine gl_op (op_rd rfl (rd_neq rfl rfl) (gk_dec (fun hr => ?_) (fun hr => ?_)))
    · skip
      exact absurd rfl hr
    · skip
      have hr0 : c.ready st 0 = 0 := hr9
      obtain ⟨hck, h1, h2, h3, h4⟩ := Circ.of_ready hr0
      have hgd := Circ.good hck
      obtain ⟨sn, rfl⟩ : ∃ n : Nat, st = n := ⟨st.toNat, by omega⟩
      simp only [Int.toNat_natCast] at h2 ⊢
      have hA : runR c sn ins = runGo c ins sn [] := by unfold runR; rw [if_pos hr0]
      refine gl_nil ?_
      refine gx_then ?_
      refine gc_cond_f rfl ?_
      refine gc_skip ?_
      refine gx_then ?_
      refine gc_seq ?_
      refine gc_region ?_
      refine gl_op (op_rd rfl (rd_assign rfl) ?_)
      refine gl_nil ?_
      refine gx_then ?_
      refine gc_seq ?_
      refine gc_seq ?_
      refine gc_region ?_
      refine gl_op (op_rd rfl (rd_move rfl) ?_)
      refine gl_op (op_rd rfl (rd_lenSlice Try.underlying23 rfl) ?_)
      refine gl_op (op_rd rfl (rd_move rfl) ?_)
      refine gl_nil ?_
      refine gx_then ?_
      refine gc_block ?_
      refine gk_nil 3 1 ?_
      refine gc_loopF (ι := Nat × Nat × List Nat × Option Nat × Nat × Int) [(3, _), (8, _), (21, _), (22, _)] [_] (fun j => j.1 ≤ ins.length ∧ runGo c (ins.drop j.1) j.2.1 j.2.2.1 = runGo c ins sn [] ∧ j.2.1 < 2 ^ c.gates.length ∧ j.2.2.1.length ≤ j.1) (fun j Fr0 => ((23, natV j.1) :: (1, natV j.2.1) :: (10, .slice (rowA j.2.2.2.1) j.2.2.1.length j.2.2.2.2.1) :: Fr0)) (fun j Fr0 => (.row 3 1 j.2.2.2.1 j.2.2.1.length j.2.2.2.2.1 (j.2.2.1.map natV) :: .blk b9 [.pointer (some ⟨b3, 0, none⟩), .int .i64 j.2.2.2.2.2] 97 :: Fr0)) (fun j => ins.length - j.1) (0, sn, [], none, 0, 0) (⟨Nat.zero_le _, rfl, h2, Nat.zero_le _⟩) ⟨rfl, rfl, rfl, rfl, rfl, rfl, rfl, trivial⟩ ⟨[0, 1, 2], by decide, rfl⟩ ?_
      rintro ⟨k, s, out, ro, co, bi⟩ ⟨hk0, hgo, hs, hol⟩
      simp only at hk0 hgo hs hol ⊢
      have hs12 := st_lt hgd hs
      refine gc_seq ?_
      refine gc_region ?_
      refine gl_op (op_rd rfl (rd_lss rfl rfl) (gk_dec (fun hlt => ?_) (fun hlt => ?_)))
      · skip
        have hkl : k < ins.length := by omega
        have hz := hins _ (mem_getD (d := 0) hkl)
        refine gl_nil ?_
        refine gx_then ?_
        refine gc_seq ?_
        refine gc_cond_t rfl ?_
        refine gc_skip ?_
        refine gx_then ?_
        refine gc_seq ?_
        refine gc_block ?_
        refine gc_seq ?_
        refine gc_region ?_
        refine gl_op (op_rd rfl (by first | exact rd_indexRow1 0 rfl Try.underlying23 ty_3 rfl rfl (by omega) (by omega) | exact rd_indexOld1 (by assumption) Try.underlying23 ty_3 rfl rfl (by omega) (by omega) | exact rd_index1 Try.underlying23 ty_3 rfl rfl (by omega) (by omega)) ?_)
        refine gl_op (op_rd rfl (rd_load Try.underlying3 rfl rfl (ld_slN hsl (get_ints hkl))) ?_)
        refine gl_op (op_rd rfl (rd_assign rfl) ?_)
        refine gl_nil ?_
        refine gx_then ?_
        refine gc_seq ?_
        refine gc_seq ?_
        refine gc_region ?_
        refine gl_op (op_rd rfl (rd_loadAgg Try.underlying25 rfl ty_25 rfl (by first | exact cs_blk 1 (off := 0) (k := 3) rfl rfl | exact cs_blk 2 (off := 0) (k := 3) rfl rfl | exact cs_old (by assumption) (by simp)) rfl) ?_)
        refine gl_op (op_rd rfl (rd_move rfl) ?_)
        refine gl_op (op_rd rfl (rd_move rfl) ?_)
        refine gl_op (op_call rfl (vf := []) (vc := []) rfl rfl Try.call11 (fun w ho => Settle_ok c s (ins.getD k 0) w (hc.at ho) (by omega) hz (fun im h hg => facts c im h hg)) ?_)
        rintro _ _ ⟨rfl, rfl⟩
        refine gl_op (op_rd rfl (rd_move rfl) ?_)
        refine gl_op (op_rd rfl (rd_extract rfl rfl) ?_)
        refine gl_op (op_rd rfl (rd_extract rfl rfl) ?_)
        refine gl_op (op_rd rfl (rd_assign rfl) ?_)
        refine gl_op (op_rd rfl (rd_assign rfl) ?_)
        refine gl_nil ?_
        refine gx_then ?_
        refine gc_seq ?_
        refine gc_region ?_
        refine gl_op (op_rd rfl (rd_move rfl) ?_)
        refine gl_op (op_rd rfl (rd_neq rfl rfl) (gk_dec (fun he => ?_) (fun he => ?_)))
        · skip
          refine gl_nil ?_
          refine gx_then ?_
          refine gc_cond_t rfl ?_
          refine gc_seq ?_
          refine gk_nil 3 1 ?_
          refine gc_region ?_
          refine gl_op (op_rd rfl (rd_move rfl) ?_)
          refine gl_op (op_rd rfl (rd_assign rfl) ?_)
          refine gl_op (op_rd rfl (rd_assign rfl) ?_)
          refine gl_nil ?_
          refine gx_then ?_
          refine gc_ret ?_
          refine gx_then_ret ?_
          refine gx_block_ret ?_
          refine gx_then_ret ?_
          refine gx_then_ret ?_
          refine gx_block_ret ?_
          refine gx_then_ret ?_
          refine gx_ret2 (.inl rfl) Try.results31 rfl rfl [0] (by decide) ?_
          rw [hA, ← hgo, runGo_bad hkl he]
          exact ⟨none, 0, rfl, rfl⟩
        · skip
          obtain ⟨hr2, ns, hre, hk, hse2⟩ := settleR_zero (Decidable.byContradiction he)
          obtain ⟨_, _, hs2, hi1, hi2⟩ := Circ.of_ready hr2
          have hstep := runGo_step (out := out) hkl (Decidable.byContradiction he)
          obtain ⟨im, him⟩ : ∃ n : Nat, ins.getD k 0 = n := ⟨(ins.getD k 0).toNat, by omega⟩
          rw [him] at hre hi2 hse2 hstep hk
          simp only [Int.toNat_natCast] at hre hi2 hse2 hstep hk
          rw [hse2] at hstep
          simp only at hstep
          have hset := settled_lt hgd hi2 hs hre hk
          simp only [him, hse2]
          refine gl_nil ?_
          refine gx_then ?_
          refine gc_cond_f rfl ?_
          refine gc_skip ?_
          refine gx_then ?_
          refine gc_seq ?_
          refine gc_region ?_
          refine gl_op (op_rd rfl (rd_move rfl) ?_)
          refine gl_op (op_rd rfl (rd_move rfl) ?_)
          refine gl_op (op_rd rfl (rd_nilCheck rfl) ?_)
          refine gl_op (op_rd rfl (rd_fieldAddr rfl (fa_97_1 _)) ?_)
          first | refine gl_op (op_store 1 ty_3 rfl rfl rfl rfl rfl (by first | rfl | (simp only [List.set_cons_succ, List.set_cons_zero]; exact rfl)) (by first | rfl | (simp only [List.set_cons_succ, List.set_cons_zero]; exact rfl)) ?_) | refine gl_op (op_store 2 ty_3 rfl rfl rfl rfl rfl (by first | rfl | (simp only [List.set_cons_succ, List.set_cons_zero]; exact rfl)) (by first | rfl | (simp only [List.set_cons_succ, List.set_cons_zero]; exact rfl)) ?_) | refine gl_op (op_storeRow 0 ty_3 rfl rfl rfl rfl (by simp; omega) (by first | rfl | (simp only [List.set_cons_succ, List.set_cons_zero]; exact rfl)) ?_)
          refine gl_nil ?_
          refine gx_then ?_
          refine gc_region ?_
          refine gl_op (op_rd rfl (rd_move rfl) ?_)
          refine gl_op (op_rd rfl (rd_move rfl) ?_)
          refine gl_op (op_rd rfl (rd_move rfl) ?_)
          refine gl_op (op_call rfl (vf := []) (vc := []) rfl rfl Try.call50 (fun w ho => outputs_ok c ⟨b9, 0, none⟩ ⟨b3, 0, none⟩ im _ w ⟨ho.blkCells 1 rfl, ho.blkCells 2 rfl, hc.at ho⟩ hgd hset hi2) ?_)
          rintro _ _ ⟨rfl, rfl⟩
          refine gl_op (op_buildSlice (sz := 1) rfl rfl (fun _ => bs_23_1_0 _) rfl rfl (fun b45 => ?_))
          refine gl_op (op_appendRow 1 0 Try.underlying23 ty_3 rfl (by decide) rfl rfl rfl rfl rfl (by simp [Value.oneCell']) (by omega) (by omega) (fun _ => (by first | rfl | (simp only [List.set_cons_succ, List.set_cons_zero]; exact rfl))) (fun r46 c46 => ?_))
          refine gl_op (op_rd rfl (rd_assign rfl) ?_)
          refine gl_nil ?_
          refine gx_block ?_
          refine gx_then ?_
          rw [snocN, snoc_len out (outB c (settledP c im ns) im)]
          refine gc_region ?_
          refine gl_op (op_rd rfl (by first | exact rd_addN (b := 1) rfl rfl (by omega) | exact rd_add rfl rfl (by omega) (by omega)) ?_)
          refine gl_op (op_rd rfl (rd_move rfl) ?_)
          refine gl_nil ?_
          refine gx_then ?_
          exact gx_cut ((k + 1, settledP c im ns, out ++ [outB c (settledP c im ns) im], r46, c46, im)) ⟨⟨by simp only; omega, by simp only; rw [← hgo, hstep], hset, by simp only [List.length_append, List.length_singleton]; omega⟩, by simp only; omega⟩ ⟨rfl, rfl, rfl, rfl, rfl, rfl, rfl, trivial⟩ ⟨[1, 2, 3], by decide, rfl⟩
      · skip
        refine gl_nil ?_
        refine gx_then ?_
        refine gc_seq ?_
        refine gc_cond_f rfl ?_
        refine gc_exit ?_
        refine gx_then_exit ?_
        refine gx_then_exit ?_
        refine gx_block_exit ?_
        refine gx_then ?_
        refine gc_seq ?_
        refine gc_region ?_
        refine gl_op (op_rd rfl (rd_move rfl) ?_)
        refine gl_op (op_rd rfl (rd_assign rfl) ?_)
        refine gl_op (op_rd rfl (rd_assign rfl) ?_)
        refine gl_nil ?_
        refine gx_then ?_
        refine gc_ret ?_
        refine gx_ret2 (.inl rfl) Try.results31 rfl rfl [0] (by decide) ?_
        rw [hA, ← hgo, List.drop_of_length_le (show ins.length ≤ k by omega)]
        exact ⟨ro, co, rfl, rfl⟩
  · skip
    refine gl_op (op_rd rfl (rd_move rfl) ?_)
    refine gl_op (op_rd rfl (rd_extract rfl rfl) ?_)
    refine gl_op (op_rd rfl (rd_extract rfl rfl) ?_)
    refine gl_op (op_rd rfl (rd_assign rfl) ?_)
    refine gl_op (op_rd rfl (rd_assign rfl) ?_)
    refine gl_nil ?_
    refine gx_then ?_
    refine gc_seq ?_
    refine gc_seq ?_
    refine gc_region ?_
    refine gl_op (op_rd rfl (rd_move rfl) ?_)
    refine gl_op (op_rd rfl (rd_neq rfl rfl) (gk_dec (fun hr => ?_) (fun hr => ?_)))
    · skip
      refine gl_nil ?_
      refine gx_then ?_
      refine gc_cond_t rfl ?_
      refine gc_seq ?_
      refine gk_nil 3 1 ?_
      refine gc_region ?_
      refine gl_op (op_rd rfl (rd_move rfl) ?_)
      refine gl_op (op_rd rfl (rd_assign rfl) ?_)
      refine gl_op (op_rd rfl (rd_assign rfl) ?_)
      refine gl_nil ?_
      refine gx_then ?_
      refine gc_ret ?_
      refine gx_then_ret ?_
      refine gx_ret2 (.inl rfl) Try.results31 rfl rfl [0] (by decide) ?_
      have hV : runR c st ins = ([], c.ready st 0) := by unfold runR; rw [if_neg (by omega)]
      rw [hV]
      exact ⟨none, 0, rfl, rfl⟩
    · skip
      exact absurd (Decidable.byContradiction hr) hr9

set_option maxRecDepth 100000 in
set_option maxHeartbeats 1000000 in
theorem rRun_ok (c : Circ) (st : Int) (ins : List Int) (a : Option Addr) (icp : Nat) (w0 : World) (hc : c.In w0 []) (hst : st ≤ 9223372036854775807) (hsl : OldSl w0 [] a ins.length 1 (ins.map intV)) (hins : ∀ z ∈ ins, z ≤ 9223372036854775807) (hil : ins.length ≤ 1000) : Sp Try.prog 32 [c.val, .int .i64 st, .slice a ins.length icp] w0 [] (fun v l => ∃ r cp, v = .tuple #[.slice (rowA r) (runR c st ins).1.length cp, .int .i64 (runR c st ins).2] ∧ l = [.row 3 1 r (runR c st ins).1.length cp ((runR c st ins).1.map natV)]) := by
  refine spec_enter Try.func32 rfl Try.ntmps32 rfl (Own.refl _) ?_
  simp only [argEnv]
  refine gc_seq ?_
  refine gc_region ?_
  refine gl_op (op_box rfl rfl rfl (fun b3 => ?_))
  refine gl_op (op_rd rfl (rd_assign rfl) ?_)
  refine gl_op (op_rd rfl (rd_assign rfl) ?_)
  refine gl_nil ?_
  refine gx_then ?_
  refine gc_seq ?_
  refine gc_region ?_
  refine gl_op (op_rd rfl (rd_loadAgg Try.underlying25 rfl ty_25 rfl (by first | exact cs_blk 0 (off := 0) (k := 3) rfl rfl | exact cs_old (by assumption) (by simp)) rfl) ?_)
  refine gl_op (op_rd rfl (rd_move rfl) ?_)
  refine gl_op (op_call rfl (vf := []) (vc := []) rfl rfl Try.call48 (fun w ho => ready_ok c st 0 w (hc.at ho) hst (by decide)) ?_)
  rintro _ _ ⟨rfl, rfl⟩
  refine gl_op (op_rd rfl (rd_assign rfl) ?_)
  refine gl_nil ?_
  refine gx_then ?_
  refine gc_seq ?_
  refine gc_seq ?_
  refine gc_region ?_
  refine gl_op (op_rd rfl (rd_move rfl) ?_)
  refine gl_op (op_rd rfl (rd_neq rfl rfl) (gk_dec (fun hr => ?_) (fun hr => ?_)))
  · skip
    refine gl_nil ?_
    refine gx_then ?_
    refine gc_cond_t rfl ?_
    refine gc_seq ?_
    refine gk_nil 3 1 ?_
    refine gc_region ?_
    refine gl_op (op_rd rfl (rd_move rfl) ?_)
    refine gl_op (op_rd rfl (rd_assign rfl) ?_)
    refine gl_op (op_rd rfl (rd_assign rfl) ?_)
    refine gl_nil ?_
    refine gx_then ?_
    refine gc_ret ?_
    refine gx_then_ret ?_
    refine gx_ret2 (.inl rfl) Try.results32 rfl rfl [0] (by decide) ?_
    have hV : runR c st ins = ([], c.ready st 0) := by unfold runR; rw [if_neg (by omega)]
    rw [hV]
    exact ⟨none, 0, rfl, rfl⟩
  · skip
    have hr0 : c.ready st 0 = 0 := by omega
    obtain ⟨hck, h1, h2, h3, h4⟩ := Circ.of_ready hr0
    have hgd := Circ.good hck
    obtain ⟨sn, rfl⟩ : ∃ n : Nat, st = n := ⟨st.toNat, by omega⟩
    simp only [Int.toNat_natCast] at h2 ⊢
    have hA : runR c sn ins = runGo c ins sn [] := by unfold runR; rw [if_pos hr0]
    refine gl_nil ?_
    refine gx_then ?_
    refine gc_cond_f rfl ?_
    refine gc_skip ?_
    refine gx_then ?_
    refine gc_seq ?_
    refine gc_region ?_
    refine gl_op (op_rd rfl (rd_assign rfl) ?_)
    refine gl_nil ?_
    refine gx_then ?_
    refine gc_seq ?_
    refine gc_seq ?_
    refine gc_region ?_
    refine gl_op (op_rd rfl (rd_assign rfl) ?_)
    refine gl_nil ?_
    refine gx_then ?_
    refine gc_block ?_
    refine gk_nil 3 1 ?_
    refine gc_loopF (ι := Nat × Nat × List Nat × Option Nat × Nat × Int) [(2, _), (3, _)] [_] (fun j => j.1 ≤ ins.length ∧ runGo c (ins.drop j.1) j.2.1 j.2.2.1 = runGo c ins sn [] ∧ j.2.1 < 2 ^ c.gates.length ∧ j.2.2.1.length ≤ j.1) (fun j Fr0 => ((10, natV j.1) :: (1, natV j.2.1) :: (9, .slice (rowA j.2.2.2.1) j.2.2.1.length j.2.2.2.2.1) :: Fr0)) (fun j Fr0 => (.row 3 1 j.2.2.2.1 j.2.2.1.length j.2.2.2.2.1 (j.2.2.1.map natV) :: Fr0)) (fun j => ins.length - j.1) (0, sn, [], none, 0, 0) (⟨Nat.zero_le _, rfl, h2, Nat.zero_le _⟩) ⟨rfl, rfl, rfl, rfl, rfl, trivial⟩ ⟨[0, 1], by decide, rfl⟩ ?_
    rintro ⟨k, s, out, ro, co, bi⟩ ⟨hk0, hgo, hs, hol⟩
    simp only at hk0 hgo hs hol ⊢
    have hs12 := st_lt hgd hs
    refine gc_seq ?_
    refine gc_seq ?_
    refine gc_region ?_
    refine gl_op (op_rd rfl (rd_move rfl) ?_)
    refine gl_op (op_rd rfl (rd_move rfl) ?_)
    refine gl_op (op_rd rfl (rd_lenSlice Try.underlying23 rfl) ?_)
    refine gl_op (op_rd rfl (rd_lss rfl rfl) (gk_dec (fun hlt => ?_) (fun hlt => ?_)))
    · skip
      have hkl : k < ins.length := by omega
      have hz := hins _ (mem_getD (d := 0) hkl)
      refine gl_nil ?_
      refine gx_then ?_
      refine gc_cond_t rfl ?_
      refine gc_skip ?_
      refine gx_then ?_
      refine gc_seq ?_
      refine gc_block ?_
      refine gc_seq ?_
      refine gc_drawP [0, 1] true 11 rfl ?_
      refine ga_first 0 #[true, false, false, false, false, false, false, false, false, false, false, false] rfl rfl rfl rfl (by kernel_rfl) rfl ⟨[0, 1], by decide, rfl⟩ (qt_rd (rd_loadAgg Try.underlying25 rfl ty_25 rfl (by first | exact cs_blk 1 (off := 0) (k := 3) rfl rfl | exact cs_old (by assumption) (by simp)) rfl)) ?_
      refine ga_first 1 #[true, true, false, false, false, false, false, false, false, false, false, false] rfl rfl rfl rfl (by kernel_rfl) rfl ⟨[0, 1], by decide, rfl⟩ (qt_rd (rd_move rfl)) ?_
      refine ga_first 2 #[true, true, true, false, false, false, false, false, false, false, false, false] rfl rfl rfl rfl (by kernel_rfl) rfl ⟨[0, 1], by decide, rfl⟩ (qt_rd (rd_move rfl)) ?_
      refine ga_first 3 #[true, true, true, true, false, false, false, false, false, false, false, false] rfl rfl rfl rfl (by kernel_rfl) rfl ⟨[0, 1], by decide, rfl⟩ (qt_rd (rd_move rfl)) ?_
      refine ga_first 4 #[true, true, true, true, true, false, false, false, false, false, false, false] rfl rfl rfl rfl (by kernel_rfl) rfl ⟨[0, 1], by decide, rfl⟩ (qt_rd (by first | exact rd_indexRow1 0 rfl Try.underlying23 ty_3 rfl rfl (by omega) (by omega) | exact rd_indexOld1 (by assumption) Try.underlying23 ty_3 rfl rfl (by omega) (by omega) | exact rd_index1 Try.underlying23 ty_3 rfl rfl (by omega) (by omega))) ?_
      refine ga_first 5 #[true, true, true, true, true, true, false, false, false, false, false, false] rfl rfl rfl rfl (by kernel_rfl) rfl ⟨[0, 1], by decide, rfl⟩ (qt_rd (rd_load Try.underlying3 rfl rfl (ld_slN hsl (get_ints hkl)))) ?_
      refine ga_first 6 #[true, true, true, true, true, true, true, false, false, false, false, false] rfl rfl rfl rfl (by kernel_rfl) rfl ⟨[0, 1], by decide, rfl⟩ (qt_call (vf := []) (vc := []) rfl rfl Try.call36 (fun w ho => rSettle_ok c s (ins.getD k 0) w (hc.at ho) (by omega) hz) (by rintro _ _ ⟨h, _⟩; exact h)) ?_
      refine ga_first 7 #[true, true, true, true, true, true, true, true, false, false, false, false] rfl rfl rfl rfl (by kernel_rfl) rfl ⟨[0, 1], by decide, rfl⟩ (qt_rd (rd_move rfl)) ?_
      refine ga_first 8 #[true, true, true, true, true, true, true, true, true, false, false, false] rfl rfl rfl rfl (by kernel_rfl) rfl ⟨[0, 1], by decide, rfl⟩ (qt_rd (rd_extract rfl rfl)) ?_
      refine ga_first 9 #[true, true, true, true, true, true, true, true, true, true, false, false] rfl rfl rfl rfl (by kernel_rfl) rfl ⟨[0, 1], by decide, rfl⟩ (qt_rd (rd_extract rfl rfl)) ?_
      refine ga_first 10 #[true, true, true, true, true, true, true, true, true, true, true, false] rfl rfl rfl rfl (by kernel_rfl) rfl ⟨[0, 1], by decide, rfl⟩ (qt_rd (rd_assign rfl)) ?_
      refine ga_first 11 #[true, true, true, true, true, true, true, true, true, true, true, true] rfl rfl rfl rfl (by kernel_rfl) rfl ⟨[0, 1], by decide, rfl⟩ (qt_rd (rd_assign rfl)) ?_
      refine ga_end (by kernel_rfl) (.inr ⟨[0, 1], by decide, rfl⟩) ?_
      refine gx_then ?_
      refine gc_seq ?_
      refine gc_seq ?_
      refine gc_region ?_
      refine gl_op (op_rd rfl (rd_move rfl) ?_)
      refine gl_op (op_rd rfl (rd_neq rfl rfl) (gk_dec (fun he => ?_) (fun he => ?_)))
      · skip
        refine gl_nil ?_
        refine gx_then ?_
        refine gc_cond_t rfl ?_
        refine gc_seq ?_
        refine gk_nil 3 1 ?_
        refine gc_region ?_
        refine gl_op (op_rd rfl (rd_move rfl) ?_)
        refine gl_op (op_rd rfl (rd_assign rfl) ?_)
        refine gl_op (op_rd rfl (rd_assign rfl) ?_)
        refine gl_nil ?_
        refine gx_then ?_
        refine gc_ret ?_
        refine gx_then_ret ?_
        refine gx_block_ret ?_
        refine gx_then_ret ?_
        refine gx_then_ret ?_
        refine gx_block_ret ?_
        refine gx_then_ret ?_
        refine gx_ret2 (.inl rfl) Try.results32 rfl rfl [0] (by decide) ?_
        rw [hA, ← hgo, runGo_bad hkl he]
        exact ⟨none, 0, rfl, rfl⟩
      · skip
        obtain ⟨hr2, ns, hre, hk, hse2⟩ := settleR_zero (Decidable.byContradiction he)
        obtain ⟨_, _, hs2, hi1, hi2⟩ := Circ.of_ready hr2
        have hstep := runGo_step (out := out) hkl (Decidable.byContradiction he)
        obtain ⟨im, him⟩ : ∃ n : Nat, ins.getD k 0 = n := ⟨(ins.getD k 0).toNat, by omega⟩
        rw [him] at hre hi2 hse2 hstep hk
        simp only [Int.toNat_natCast] at hre hi2 hse2 hstep hk
        rw [hse2] at hstep
        simp only at hstep
        have hset := settled_lt hgd hi2 hs hre hk
        simp only [him, hse2]
        refine gl_nil ?_
        refine gx_then ?_
        refine gc_cond_f rfl ?_
        refine gc_skip ?_
        refine gx_then ?_
        refine gc_seq ?_
        refine gc_region ?_
        refine gl_op (op_rd rfl (rd_move rfl) ?_)
        refine gl_op (op_rd rfl (rd_assign rfl) ?_)
        refine gl_nil ?_
        refine gx_then ?_
        refine gc_drawP [1] false 10 rfl ?_
        refine ga_first 0 #[true, false, false, false, false, false, false, false, false, false, false] rfl rfl rfl rfl (by kernel_rfl) rfl ⟨[1], by decide, rfl⟩ (qt_rd (rd_move rfl)) ?_
        refine ga_first 1 #[true, true, false, false, false, false, false, false, false, false, false] rfl rfl rfl rfl (by kernel_rfl) rfl ⟨[1], by decide, rfl⟩ (qt_rd (rd_loadAgg Try.underlying25 rfl ty_25 rfl (by first | exact cs_blk 0 (off := 0) (k := 3) rfl rfl | exact cs_old (by assumption) (by simp)) rfl)) ?_
        refine ga_first 2 #[true, true, true, false, false, false, false, false, false, false, false] rfl rfl rfl rfl (by kernel_rfl) rfl ⟨[1], by decide, rfl⟩ (qt_rd (rd_move rfl)) ?_
        refine ga_first 3 #[true, true, true, true, false, false, false, false, false, false, false] rfl rfl rfl rfl (by kernel_rfl) rfl ⟨[1], by decide, rfl⟩ (qt_rd (rd_move rfl)) ?_
        refine ga_first 4 #[true, true, true, true, true, false, false, false, false, false, false] rfl rfl rfl rfl (by kernel_rfl) rfl ⟨[1], by decide, rfl⟩ (qt_rd (rd_move rfl)) ?_
        refine ga_first 5 #[true, true, true, true, true, true, false, false, false, false, false] rfl rfl rfl rfl (by kernel_rfl) rfl ⟨[1], by decide, rfl⟩ (qt_rd (by first | exact rd_indexOld1 (by assumption) Try.underlying23 ty_3 rfl rfl (by omega) (by omega) | exact rd_index1 Try.underlying23 ty_3 rfl rfl (by omega) (by omega))) ?_
        refine ga_first 6 #[true, true, true, true, true, true, true, false, false, false, false] rfl rfl rfl rfl (by kernel_rfl) rfl ⟨[1], by decide, rfl⟩ (qt_rd (rd_load Try.underlying3 rfl rfl (ld_slN hsl (get_ints hkl)))) ?_
        simp only [him]
        refine ga_first 7 #[true, true, true, true, true, true, true, true, false, false, false] rfl rfl rfl rfl (by kernel_rfl) rfl ⟨[1], by decide, rfl⟩ (qt_call (vf := []) (vc := []) rfl rfl Try.call51 (fun w ho => routputs_ok c _ im w (hc.at ho) hgd hset hi2) (by rintro _ _ ⟨h, _⟩; exact h)) ?_
        refine ga_only 8 #[true, true, true, true, true, true, true, true, true, false, false] rfl rfl (by kernel_rfl) rfl (.inr ⟨[1], by decide, rfl⟩) (op_buildSlice (sz := 1) rfl rfl (fun _ => bs_23_1_0 _) rfl rfl (fun b47 => ?_))
        refine ga_only 9 #[true, true, true, true, true, true, true, true, true, true, false] rfl rfl (by kernel_rfl) rfl (.inr ⟨[2], by decide, rfl⟩) (op_appendRow 1 0 Try.underlying23 ty_3 rfl (by decide) rfl rfl rfl rfl rfl (by simp [Value.oneCell']) (by omega) (by omega) (fun _ => (by first | rfl | (simp only [List.set_cons_succ, List.set_cons_zero]; exact rfl))) (fun r48 c48 => ?_))
        refine ga_only 10 #[true, true, true, true, true, true, true, true, true, true, true] rfl rfl (by kernel_rfl) rfl (.inr ⟨[2], by decide, rfl⟩) (op_rd rfl (rd_assign rfl) ?_)
        refine ga_end (by kernel_rfl) (.inl (by kernel_rfl)) ?_
        refine gx_block ?_
        refine gx_then ?_
        rw [snocN, snoc_len out (outB c (settledP c im ns) im)]
        refine gc_region ?_
        refine gl_op (op_rd rfl (rd_move rfl) ?_)
        refine gl_op (op_rd rfl (by first | exact rd_addN (b := 1) rfl rfl (by omega) | exact rd_add rfl rfl (by omega) (by omega)) ?_)
        refine gl_op (op_rd rfl (rd_assign rfl) ?_)
        refine gl_nil ?_
        refine gx_then ?_
        exact gx_cut ((k + 1, settledP c im ns, out ++ [outB c (settledP c im ns) im], r48, c48, 0)) ⟨⟨by simp only; omega, by simp only; rw [← hgo, hstep], hset, by simp only [List.length_append, List.length_singleton]; omega⟩, by simp only; omega⟩ ⟨rfl, rfl, rfl, rfl, rfl, trivial⟩ ⟨[1, 2], by decide, rfl⟩
    · skip
      refine gl_nil ?_
      refine gx_then ?_
      refine gc_cond_f rfl ?_
      refine gc_exit ?_
      refine gx_then_exit ?_
      refine gx_then_exit ?_
      refine gx_block_exit ?_
      refine gx_then ?_
      refine gc_seq ?_
      refine gc_region ?_
      refine gl_op (op_rd rfl (rd_move rfl) ?_)
      refine gl_op (op_rd rfl (rd_assign rfl) ?_)
      refine gl_op (op_rd rfl (rd_assign rfl) ?_)
      refine gl_nil ?_
      refine gx_then ?_
      refine gc_ret ?_
      refine gx_ret2 (.inl rfl) Try.results32 rfl rfl [0] (by decide) ?_
      rw [hA, ← hgo, List.drop_of_length_le (show ins.length ≤ k by omega)]
      exact ⟨ro, co, rfl, rfl⟩

end Go.Proofs.Yteocjpnckciboaa

set_option autoImplicit false
set_option linter.unusedVariables false
namespace Go.Proofs.Yteocjpnckciboaa
open Go.Gv
open Go.RowKit
namespace Ry
section
variable {c : Circ} {inn : Nat} {ns : List Nd}
/-! ## circuits whose gates have signals of earlier gates alone, and do not hold -/
def Plain (c : Circ) : Prop := ∀ (k : Nat) (g : Gate), c.gates[k]? = some g → g.kind ≠ 7 ∧ ∀ n ∈ g.ins, n < c.inputs + (k : Int)
theorem sigA_same {st st2 im I : Nat} {n : Int} {k : Nat} (hin : im < 2 ^ I) (h0 : 0 ≤ n) (hn : n < (I : Int) + k) (h : ∀ j, j < k → st.testBit j = st2.testBit j) : sigA (st <<< I ||| im) n = sigA (st2 <<< I ||| im) n := by
  unfold sigA
  rw [all_bit hin, all_bit hin]
  split
  · rfl
  · exact h _ (by omega)
theorem plain_value (hg : c.Good) (hp : Plain c) (hin : inn < 2 ^ c.inputs.toNat) {k st st2 : Nat} (hk : k < c.gates.length) (h : ∀ j, j < k → st.testBit j = st2.testBit j) : valueB c k st inn = valueB c k st2 inn := by
  obtain ⟨g, hgk⟩ : ∃ g, c.gates[k]? = some g := ⟨c.gates[k], List.getElem?_eq_getElem hk⟩
  have hm := List.mem_of_getElem? hgk
  obtain ⟨h7, hlt⟩ := hp k g hgk
  have hI : ((c.inputs.toNat : Nat) : Int) = c.inputs := by have := hg.i0; omega
  have hs : ∀ n ∈ g.ins, sigA (st <<< c.inputs.toNat ||| inn) n = sigA (st2 <<< c.inputs.toNat ||| inn) n := fun n hn =>
    sigA_same hin (hg.ins g hm n hn).1 (by rw [hI]; exact hlt n hn) h
  have hsig := hg.sigs g hm
  have hall : g.ins.all (sigA (st <<< c.inputs.toNat ||| inn)) = g.ins.all (sigA (st2 <<< c.inputs.toNat ||| inn)) := by
    rw [Bool.eq_iff_iff, List.all_eq_true, List.all_eq_true]
    exact ⟨fun hx n hn => by rw [← hs n hn]; exact hx n hn, fun hx n hn => by rw [hs n hn]; exact hx n hn⟩
  have hany : g.ins.any (sigA (st <<< c.inputs.toNat ||| inn)) = g.ins.any (sigA (st2 <<< c.inputs.toNat ||| inn)) := by
    rw [Bool.eq_iff_iff, List.any_eq_true, List.any_eq_true]
    exact ⟨fun ⟨n, hn, hx⟩ => ⟨n, hn, by rw [← hs n hn]; exact hx⟩, fun ⟨n, hn, hx⟩ => ⟨n, hn, by rw [hs n hn]; exact hx⟩⟩
  rw [valueB_eq hgk, valueB_eq hgk]
  unfold valueG
  by_cases k1 : g.kind = 1
  · simp only [k1, if_true]; exact hall
  by_cases k4 : g.kind = 4
  · simp only [k1, k4, if_true, if_false]; rw [hall]
  by_cases k2 : g.kind = 2
  · simp only [k1, k2, k4, if_true, if_false]; exact hany
  by_cases k5 : g.kind = 5
  · simp only [k1, k2, k4, k5, if_true, if_false]; rw [hany]; rfl
  by_cases k3 : g.kind = 3
  · simp only [k1, k2, k4, k5, k3, if_true, if_false]
    have hl := sigs_not hsig k3
    rw [hs _ (mem_getD (d := 0) (by omega))]
    rfl
  by_cases k6 : g.kind = 6
  · simp only [k1, k2, k4, k5, k3, k6, if_true, if_false]
    have hl := sigs_xor hsig k6
    rw [hs _ (mem_getD (d := 0) (k := 0) (by omega)), hs _ (mem_getD (d := 0) (k := 1) (by omega))]
    rfl
  · exfalso
    simp only [sigs, k1, k2, k3, k4, k5, k6, h7, if_false] at hsig
    cases hsig
theorem mem_next {st k : Nat} : k ∈ nextL c st inn ↔ k < c.gates.length ∧ valueB c k st inn ≠ st.testBit k := by
  unfold nextL restless
  rw [List.mem_filter, List.mem_range]
  simp
/-- only one state at rest -/
theorem plain_rest (hg : c.Good) (hp : Plain c) (hin : inn < 2 ^ c.inputs.toNat) {s t : Nat} (hs : s < 2 ^ c.gates.length) (ht : t < 2 ^ c.gates.length) (h1 : nextL c s inn = []) (h2 : nextL c t inn = []) : s = t := by
  have key : ∀ k, ∀ j, j < k → s.testBit j = t.testBit j := by
    intro k
    induction k with
    | zero => intro j h; omega
    | succ k ih =>
      intro j hj
      rcases Nat.lt_succ_iff_lt_or_eq.1 hj with hj | rfl
      · exact ih j hj
      · by_cases hjl : j < c.gates.length
        · have e1 : valueB c j s inn = s.testBit j := by
            apply Decidable.byContradiction; intro h
            have := mem_next.2 ⟨hjl, h⟩
            rw [h1] at this; cases this
          have e2 : valueB c j t inn = t.testBit j := by
            apply Decidable.byContradiction; intro h
            have := mem_next.2 ⟨hjl, h⟩
            rw [h2] at this; cases this
          rw [← e1, ← e2]
          exact plain_value hg hp hin hjl ih
        · have hpw := Nat.pow_le_pow_right (n := 2) (by decide) (show c.gates.length ≤ j by omega)
          rw [Nat.testBit_lt_two_pow (by omega), Nat.testBit_lt_two_pow (by omega)]
  apply Nat.eq_of_testBit_eq
  intro j
  exact key (j + 1) j (by omega)
/-- along a way that switches no gate before k: the gate k switches at most once -/
theorem plain_way (hg : c.Good) (hp : Plain c) (hin : inn < 2 ^ c.inputs.toNat) {k : Nat} (hk : k < c.gates.length) : ∀ (l : List Nat) (s t : Nat), goesGo c inn l s = some t → (∀ q ∈ l, k ≤ q) →
    valueB c k t inn = valueB c k s inn ∧ (s.testBit k = valueB c k s inn → t.testBit k = s.testBit k ∧ k ∉ l) ∧ (k ∈ l → t.testBit k = valueB c k s inn)
  | [], s, t, h, _ => by
    simp [goesGo] at h; subst h
    exact ⟨rfl, fun h => ⟨rfl, by simp⟩, fun h => by cases h⟩
  | q :: l, s, t, h, hq => by
    simp only [goesGo] at h
    split at h
    · rename_i hm
      have hqk : k ≤ q := hq q (by simp)
      have hv : valueB c k (flip s q) inn = valueB c k s inn := plain_value hg hp hin hk fun j hj => by
        rw [flip_test, decide_eq_false (by omega)]; simp
      obtain ⟨r1, r2, r3⟩ := plain_way hg hp hin hk l (flip s q) t h fun x hx => hq x (List.mem_cons_of_mem _ hx)
      rw [hv] at r1 r2 r3
      have hr := (mem_next.1 hm).2
      by_cases e : q = k
      · subst e
        have hb : (flip s q).testBit q = !s.testBit q := by rw [flip_test]; simp
        have hb2 : (flip s q).testBit q = valueB c q s inn := by rw [hb]; revert hr; cases valueB c q s inn <;> cases s.testBit q <;> simp
        obtain ⟨r4, r5⟩ := r2 hb2
        exact ⟨r1, fun h => absurd h.symm hr, fun _ => by rw [r4, hb2]⟩
      · have hb : (flip s q).testBit k = s.testBit k := by rw [flip_test, decide_eq_false e]; simp
        refine ⟨r1, fun hs => ?_, fun hm2 => ?_⟩
        · obtain ⟨r4, r5⟩ := r2 (by rw [hb]; exact hs)
          exact ⟨by rw [r4, hb], fun hx => by
            rcases List.mem_cons.1 hx with hx | hx
            · exact e hx.symm
            · exact r5 hx⟩
        · rcases List.mem_cons.1 hm2 with hx | hx
          · exact absurd hx.symm e
          · exact r3 hx
    · cases h
theorem list_min : ∀ (l : List Nat), l ≠ [] → ∃ k ∈ l, ∀ q ∈ l, k ≤ q
  | [], h => absurd rfl h
  | [a], _ => ⟨a, by simp, by simp⟩
  | a :: b :: l, _ => by
    obtain ⟨k, h1, h2⟩ := list_min (b :: l) (by simp)
    by_cases h : a ≤ k
    · exact ⟨a, by simp, fun q hq => by
        rcases List.mem_cons.1 hq with rfl | hq
        · exact Nat.le_refl _
        · exact Nat.le_trans h (h2 q hq)⟩
    · exact ⟨k, List.mem_cons_of_mem _ h1, fun q hq => by
        rcases List.mem_cons.1 hq with rfl | hq
        · omega
        · exact h2 q hq⟩
theorem goes_mem : ∀ (l : List Nat) (s t : Nat), goesGo c inn l s = some t → ∀ q ∈ l, q < c.gates.length
  | [], _, _, _, q, hq => by cases hq
  | a :: l, s, t, h, q, hq => by
    simp only [goesGo] at h
    split at h
    · rename_i hm
      rcases List.mem_cons.1 hq with rfl | hq
      · exact nextL_lt hm
      · exact goes_mem l _ t h q hq
    · cases h
theorem plain_back (hg : c.Good) (hp : Plain c) (hin : inn < 2 ^ c.inputs.toNat) {l : List Nat} {s : Nat} (h : goesGo c inn l s = some s) : l = [] := by
  apply Decidable.byContradiction
  intro hl
  obtain ⟨k, h1, h2⟩ := list_min l hl
  have hk := goes_mem l s s h k h1
  obtain ⟨_, r2, r3⟩ := plain_way hg hp hin hk l s s h h2
  exact (r2 (r3 h1)).2 h1
theorem plain_race (hg : c.Good) (hp : Plain c) (hin : inn < 2 ^ c.inputs.toNat) {st : Nat} (hst : st < 2 ^ c.gates.length) (hre : reachP c inn [st] = some ns) : (raceP c inn ns).kind = 0 := by
  cases hW : raceP c inn ns with
  | mk k a b =>
    have W := witness hg hst hre
    rw [hW] at W
    cases W with
    | none => rfl
    | two x y u v h1 h2 h3 h4 h5 h6 h7 => exact absurd (plain_rest hg hp hin h6 h7 h4 h5) h3
    | loop x y u h1 h2 h3 h4 => exact absurd (plain_back hg hp hin h2) h3
theorem plain_accIn (hg : c.Good) (hp : Plain c) {s : Nat} (hs : s < 2 ^ c.gates.length) : ∀ (f im : Nat) (l : List Nat) (work : Nat), im + f ≤ 2 ^ c.inputs.toNat → (∀ x ∈ l, x < 2 ^ c.gates.length) →
    (∃ v, accIn c s f im l work = .inl v ∧ v.err = 5) ∨ ∃ l2 w2, accIn c s f im l work = .inr (l2, w2) ∧ ∀ x ∈ l2, x < 2 ^ c.gates.length
  | 0, im, l, work, _, hl => .inr ⟨l, work, rfl, hl⟩
  | f + 1, im, l, work, h, hl => by
    cases hre : reachP c im [s] with
    | none => exact .inl ⟨_, accIn_full hre, rfl⟩
    | some ns =>
      by_cases hb : 20000 < work + ns.length
      · exact .inl ⟨_, accIn_big hre hb, rfl⟩
      · have hin : im < 2 ^ c.inputs.toNat := by omega
        have hk := plain_race hg hp hin hs hre
        rw [accIn_step hre hb hk]
        refine plain_accIn hg hp hs f (im + 1) _ _ (by omega) ?_
        unfold pushS
        split
        · exact hl
        · exact push_lt hl (settled_lt hg hin hs hre hk)
theorem plain_accGo (hg : c.Good) (hp : Plain c) : ∀ (f i : Nat) (l : List Nat) (work : Nat), (∀ x ∈ l, x < 2 ^ c.gates.length) → (accGo c f i l work).err = 5 ∨ (accGo c f i l work).err = 0 ∧ (accGo c f i l work).good = true
  | 0, _, _, _, _ => .inr ⟨rfl, rfl⟩
  | f + 1, i, l, work, hl => by
    cases hx : l[i]? with
    | none => rw [accGo, hx]; exact .inr ⟨rfl, rfl⟩
    | some s =>
      rw [accGo_step hx]
      rcases plain_accIn hg hp (hl s (List.mem_of_getElem? hx)) (2 ^ c.inputs.toNat) 0 l work (by omega) hl with ⟨v, h1, h2⟩ | ⟨l2, w2, h1, h2⟩
      · rw [h1]; exact .inl h2
      · rw [h1]; exact plain_accGo hg hp f (i + 1) l2 w2 h2
theorem plain_accept (hp : Plain c) {st : Int} (hr : c.ready st 0 = 0) : (acceptR c st).err = 5 ∨ (acceptR c st).err = 0 ∧ (acceptR c st).good = true := by
  obtain ⟨hck, h1, h2, _⟩ := Circ.of_ready hr
  unfold acceptR
  rw [if_pos hr]
  exact plain_accGo (Circ.good hck) hp _ _ _ _ (by simpa using h2)
/-! ## what an accepted circuit is like -/
def OkAt (c : Circ) (L : List Nat) (s : Nat) : Prop := ∀ j, j < 2 ^ c.inputs.toNat → ∃ ns, reachP c j [s] = some ns ∧ (raceP c j ns).kind = 0 ∧ settledP c j ns ∈ L
theorem accIn_inr (hg : c.Good) {s : Nat} (hs : s < 2 ^ c.gates.length) : ∀ (f im : Nat) (l : List Nat) (work : Nat) (l2 : List Nat) (w2 : Nat), im + f ≤ 2 ^ c.inputs.toNat → l.Nodup → (∀ x ∈ l, x < 2 ^ c.gates.length) → accIn c s f im l work = .inr (l2, w2) →
    l2.Nodup ∧ (∀ x ∈ l2, x < 2 ^ c.gates.length) ∧ (∃ e, l2 = l ++ e) ∧ ∀ j, im ≤ j → j < im + f → ∃ ns, reachP c j [s] = some ns ∧ (raceP c j ns).kind = 0 ∧ settledP c j ns ∈ l2
  | 0, im, l, work, l2, w2, _, hnd, hl, h => by
    simp only [accIn] at h
    cases h
    exact ⟨hnd, hl, ⟨[], by simp⟩, fun j h1 h2 => by omega⟩
  | f + 1, im, l, work, l2, w2, hf, hnd, hl, h => by
    cases hre : reachP c im [s] with
    | none => rw [accIn_full hre] at h; cases h
    | some ns =>
      by_cases hb : 20000 < work + ns.length
      · rw [accIn_big hre hb] at h; cases h
      · by_cases hk : (raceP c im ns).kind = 0
        · rw [accIn_step hre hb hk] at h
          have hin : im < 2 ^ c.inputs.toNat := by omega
          have hpush : (pushS l (settledP c im ns)).Nodup ∧ (∀ x ∈ pushS l (settledP c im ns), x < 2 ^ c.gates.length) ∧ (∃ e, pushS l (settledP c im ns) = l ++ e) ∧ settledP c im ns ∈ pushS l (settledP c im ns) := by
            by_cases hm : settledP c im ns ∈ l
            · rw [push_t hm]; exact ⟨hnd, hl, ⟨[], by simp⟩, hm⟩
            · rw [push_f hm]; exact ⟨push_nd hnd hm, push_lt hl (settled_lt hg hin hs hre hk), ⟨_, rfl⟩, by simp⟩
          obtain ⟨p1, p2, ⟨e1, p3⟩, p4⟩ := hpush
          obtain ⟨r1, r2, ⟨e2, r3⟩, r4⟩ := accIn_inr hg hs f (im + 1) _ _ l2 w2 (by omega) p1 p2 h
          refine ⟨r1, r2, ⟨e1 ++ e2, by rw [r3, p3, List.append_assoc]⟩, fun j h1 h2 => ?_⟩
          by_cases hj : j = im
          · subst hj
            exact ⟨ns, hre, hk, by rw [r3]; exact List.mem_append_left _ p4⟩
          · exact r4 j (by omega) (by omega)
        · rw [accIn_race hre hb hk] at h; cases h
theorem accGo_good (hg : c.Good) : ∀ (f i : Nat) (l : List Nat) (work : Nat), l.Nodup → (∀ x ∈ l, x < 2 ^ c.gates.length) → 4097 ≤ i + f → i ≤ l.length → (accGo c f i l work).good = true →
    ∃ L, (∃ e, L = l ++ e) ∧ (∀ x ∈ L, x < 2 ^ c.gates.length) ∧ ∀ (q s : Nat), i ≤ q → L[q]? = some s → OkAt c L s
  | f, i, l, work, hnd, hl, hf, hil, h => by
    have hpow : 2 ^ c.gates.length ≤ 2 ^ 12 := Nat.pow_le_pow_right (by decide) hg.g12
    have hll := nodup_len _ l hnd hl
    rcases Nat.lt_or_ge i l.length with hi | hi
    · obtain ⟨f, rfl⟩ : ∃ f', f = f' + 1 := ⟨f - 1, by omega⟩
      have hx := List.getElem?_eq_getElem hi
      rw [accGo_step hx] at h
      cases ha : accIn c l[i] (2 ^ c.inputs.toNat) 0 l work with
      | inl v =>
        rw [ha] at h
        -- a verdict of a race or of a limit is not good
        exfalso
        have bad : ∀ (s f im : Nat) (l : List Nat) (work : Nat) (v : Vd), accIn c s f im l work = .inl v → v.good = false := by
          intro s f
          induction f with
          | zero => intro im l work v h; simp [accIn] at h
          | succ f ih =>
            intro im l work v h
            cases hre : reachP c im [s] with
            | none => rw [accIn_full hre] at h; cases h; rfl
            | some ns =>
              by_cases hb : 20000 < work + ns.length
              · rw [accIn_big hre hb] at h; cases h; rfl
              · by_cases hk : (raceP c im ns).kind = 0
                · rw [accIn_step hre hb hk] at h; exact ih _ _ _ v h
                · rw [accIn_race hre hb hk] at h; cases h; rfl
        have := bad _ _ _ _ _ _ ha
        rw [show (accK c f i (.inl v)).good = v.good from rfl, this] at h
        cases h
      | inr p =>
        obtain ⟨l2, w2⟩ := p
        rw [ha] at h
        obtain ⟨r1, r2, ⟨e1, r3⟩, r4⟩ := accIn_inr hg (hl _ (List.getElem_mem hi)) _ _ _ _ l2 w2 (by omega) hnd hl ha
        obtain ⟨L, ⟨e2, s1⟩, s2, s3⟩ := accGo_good hg f (i + 1) l2 w2 r1 r2 (by omega) (by rw [r3, List.length_append]; omega) h
        refine ⟨L, ⟨e1 ++ e2, by rw [s1, r3, List.append_assoc]⟩, s2, fun q s hq hs => ?_⟩
        by_cases hqi : q = i
        · subst hqi
          have : s = l[q] := by
            rw [s1, r3, List.append_assoc, List.getElem?_append_left hi, hx] at hs
            cases hs; rfl
          subst this
          intro j hj
          obtain ⟨ns, a1, a2, a3⟩ := r4 j (by omega) (by omega)
          exact ⟨ns, a1, a2, by rw [s1]; exact List.mem_append_left _ a3⟩
        · exact s3 q s (by omega) hs
    · exact ⟨l, ⟨[], by simp⟩, hl, fun q s hq hs => by
        have := (List.getElem?_eq_some_iff.1 hs).1
        omega⟩
  termination_by f => f
theorem accept_good {st : Nat} (hr : c.ready st 0 = 0) (h : (acceptR c st).good = true) : ∃ L, st ∈ L ∧ (∀ x ∈ L, x < 2 ^ c.gates.length) ∧ ∀ s ∈ L, OkAt c L s := by
  obtain ⟨hck, h1, h2, _⟩ := Circ.of_ready hr
  unfold acceptR at h
  rw [if_pos hr] at h
  obtain ⟨L, ⟨e, s1⟩, s2, s3⟩ := accGo_good (Circ.good hck) 5000 0 [(st : Int).toNat] 0 (by simp) (by simpa using h2) (by omega) (by simp) h
  refine ⟨L, by rw [s1]; simp, s2, fun s hs => ?_⟩
  obtain ⟨q, hq⟩ := List.getElem?_of_mem hs
  exact s3 q s (Nat.zero_le _) hq
theorem settleR_ok' {L : List Nat} {s im : Nat} (hck : c.check = 0) (hL : ∀ x ∈ L, x < 2 ^ c.gates.length) (hok : ∀ s ∈ L, OkAt c L s) (hs : s ∈ L) (hin : im < 2 ^ c.inputs.toNat) : ∃ ns, reachP c im [s] = some ns ∧ (raceP c im ns).kind = 0 ∧ settledP c im ns ∈ L ∧ settleR c s im = (settledP c im ns, 0) := by
  obtain ⟨ns, h1, h2, h3⟩ := hok s hs im hin
  refine ⟨ns, h1, h2, h3, ?_⟩
  have := settleR_ok (st := (s : Int)) (inn := (im : Int)) (ready_nat hck (hL s hs) hin) (by simpa using h1) (by simpa using h2)
  simpa using this
theorem runGo_pre : ∀ (is : List Int) (st : Int) (out res : List Nat), runGo c is st out = (res, 0) → ∃ e, res = out ++ e
  | [], st, out, res, h => by simp [runGo] at h; exact ⟨[], by simp [h]⟩
  | i :: is, st, out, res, h => by
    rw [runGo] at h
    split at h
    · rename_i hne
      have := congrArg Prod.snd h
      simp only at this
      exact absurd this hne
    · obtain ⟨e, he⟩ := runGo_pre is _ _ res h
      exact ⟨_, by rw [he, List.append_assoc]⟩
theorem runGo_good {L : List Nat} (hck : c.check = 0) (hL : ∀ x ∈ L, x < 2 ^ c.gates.length) (hok : ∀ s ∈ L, OkAt c L s) : ∀ (is : List Nat) (s : Nat) (out : List Nat), s ∈ L → (∀ i ∈ is, i < 2 ^ c.inputs.toNat) → ∃ res, runGo c (is.map fun n : Nat => (n : Int)) s out = (res, 0) ∧ res.length = out.length + is.length
  | [], s, out, _, _ => ⟨out, rfl, by simp⟩
  | i :: is, s, out, hs, hi => by
    obtain ⟨ns, h1, h2, h3, h4⟩ := settleR_ok' hck hL hok hs (hi i (by simp))
    rw [List.map_cons, runGo, h4]
    simp only [ne_eq, not_true_eq_false, if_false]
    obtain ⟨res, r1, r2⟩ := runGo_good hck hL hok is (settledP c i ns) (out ++ [outB c (settledP c i ns) ((i : Int)).toNat]) h3 fun j hj => hi j (List.mem_cons_of_mem _ hj)
    exact ⟨res, r1, by rw [r2]; simp; omega⟩
end
end Ry
end Go.Proofs.Yteocjpnckciboaa

set_option autoImplicit false
set_option linter.unusedVariables false
namespace Go.Proofs.Yteocjpnckciboaa
open Go.Gv
open Go.RowKit
open Ry
theorem rcEq_self (x : Rc) : rcEq x x = true := by simp [rcEq]
theorem sameRace_t (x : Rc) (a1 b1 a2 b2 : Option Addr) (c1 d1 c2 d2 : Nat) (w0 : World) (h1 : OldSl w0 [] a1 x.a.length 1 (x.a.map natV)) (h2 : OldSl w0 [] b1 x.b.length 1 (x.b.map natV)) (h3 : OldSl w0 [] a2 x.a.length 1 (x.a.map natV)) (h4 : OldSl w0 [] b2 x.b.length 1 (x.b.map natV)) (hl1 : x.a.length ≤ 140737488355328) (hl2 : x.b.length ≤ 140737488355328) : Sp Try.prog 28 [.agg #[natV x.kind, .slice a1 x.a.length c1, .slice b1 x.b.length d1], .agg #[natV x.kind, .slice a2 x.a.length c2, .slice b2 x.b.length d2]] w0 [] (RV (.bool true)) := by
  have h := sameRace_ok x x a1 b1 a2 b2 c1 d1 c2 d2 w0 h1 h2 h3 h4 hl1 hl2
  rw [rcEq_self] at h
  exact h
theorem acc_len_in (c : Circ) (hg : c.Good) {s : Nat} (hs : s < 2 ^ c.gates.length) : ∀ (f im : Nat) (l : List Nat) (work : Nat), im + f ≤ 2 ^ c.inputs.toNat → (∀ x ∈ l, x < 2 ^ c.gates.length) →
    (∃ v, accIn c s f im l work = .inl v ∧ v.rc.a.length ≤ 2000 ∧ v.rc.b.length ≤ 2000) ∨ ∃ l2 w2, accIn c s f im l work = .inr (l2, w2) ∧ ∀ x ∈ l2, x < 2 ^ c.gates.length
  | 0, im, l, work, _, hl => .inr ⟨l, work, rfl, hl⟩
  | f + 1, im, l, work, h, hl => by
    cases hre : reachP c im [s] with
    | none => exact .inl ⟨_, accIn_full hre, by simp [zRc], by simp [zRc]⟩
    | some ns =>
      by_cases hb : 20000 < work + ns.length
      · exact .inl ⟨_, accIn_big hre hb, by simp [zRc], by simp [zRc]⟩
      · have hin : im < 2 ^ c.inputs.toNat := by omega
        by_cases hk : (raceP c im ns).kind = 0
        · rw [accIn_step hre hb hk]
          refine acc_len_in c hg hs f (im + 1) _ _ (by omega) ?_
          unfold pushS
          split
          · exact hl
          · exact push_lt hl (settled_lt hg hin hs hre hk)
        · exact .inl ⟨_, accIn_race hre hb hk, race_len (facts_gr hg hs hre)⟩
theorem acc_len_go (c : Circ) (hg : c.Good) : ∀ (f i : Nat) (l : List Nat) (work : Nat), (∀ x ∈ l, x < 2 ^ c.gates.length) → (accGo c f i l work).rc.a.length ≤ 2000 ∧ (accGo c f i l work).rc.b.length ≤ 2000
  | 0, _, _, _, _ => by simp [accGo, zRc]
  | f + 1, i, l, work, hl => by
    cases hx : l[i]? with
    | none => rw [accGo, hx]; simp [zRc]
    | some s =>
      rw [accGo_step hx]
      rcases acc_len_in c hg (hl s (List.mem_of_getElem? hx)) (2 ^ c.inputs.toNat) 0 l work (by omega) hl with ⟨v, h1, h2⟩ | ⟨l2, w2, h1, h2⟩
      · rw [h1]; exact h2
      · rw [h1]; exact acc_len_go c hg f (i + 1) l2 w2 h2
theorem accept_len (c : Circ) (st : Int) : (acceptR c st).rc.a.length ≤ 2000 ∧ (acceptR c st).rc.b.length ≤ 2000 := by
  unfold acceptR
  split
  · rename_i hr
    obtain ⟨hck, _, h2, _⟩ := Circ.of_ready hr
    exact acc_len_go c (Circ.good hck) _ _ _ _ (by simpa using h2)
  · simp [zRc]
theorem runGo_len (c : Circ) : ∀ (is : List Int) (st : Int) (o : List Nat), (runGo c is st o).1.length ≤ o.length + is.length
  | [], _, o => by simp [runGo]
  | i :: is, st, o => by
    rw [runGo]
    split
    · simp
    · have := runGo_len c is (settleR c st i).1 (o ++ [outB c (settleR c st i).1 i.toNat])
      simp at *; omega
theorem run_len (c : Circ) (st : Int) (is : List Int) : (runR c st is).1.length ≤ is.length := by
  unfold runR
  split
  · have := runGo_len c is st []; simpa using this
  · simp
theorem rOutputsN_ok (c : Circ) (st inn : Nat) (w0 : World) (hc : c.In w0 []) (hst : st < 4096) (hin : inn < 256) (hr : c.ready st inn = 0) : Sp Try.prog 22 [c.val, natV st, natV inn] w0 [] (RV (.tuple #[natV (outB c st inn), .int .i64 0])) := by
  have h := rOutputs_ok c st inn w0 hc (by omega) (by omega)
  rw [hr, if_pos rfl] at h
  simpa using h
theorem accept_ready {c : Circ} {st : Int} (h : (acceptR c st).err = 0) : c.ready st 0 = 0 := by
  unfold acceptR at h
  split at h
  · assumption
  · exact h
theorem RunN_ok (c : Circ) (ls res : List Nat) (a : Option Addr) (icp : Nat) (w0 : World) (hc : c.In w0 []) (hsl : OldSl w0 [] a ls.length 1 (ls.map natV)) (hi : ∀ i ∈ ls, i < 256) (hil : ls.length ≤ 1000) (hr : c.ready 0 0 = 0) (hres : runGo c (ls.map fun n : Nat => (n : Int)) 0 [] = (res, 0)) : Sp Try.prog 31 [c.val, .int .i64 0, .slice a ls.length icp] w0 [] (fun v l => ∃ r cp, v = .tuple #[.slice (rowA r) res.length cp, .int .i64 0] ∧ l = [.row 3 1 r res.length cp (res.map natV)]) := by
  have h := Run_ok c 0 (ls.map fun n : Nat => (n : Int)) a icp w0 hc (by decide) (by rw [natInt, List.length_map]; exact hsl) (fun z hz => by
    obtain ⟨n, hn, rfl⟩ := List.mem_map.1 hz
    have := hi n hn; omega) (by rw [List.length_map]; exact hil)
  have e : runR c 0 (ls.map fun n : Nat => (n : Int)) = (res, 0) := by unfold runR; rw [if_pos hr]; exact hres
  rw [List.length_map] at h
  simp only [e] at h
  exact h

set_option maxRecDepth 100000 in
set_option maxHeartbeats 1000000 in
theorem RelaysPlain_ok (c : Circ) (st : Int) (w0 : World) (hc : c.In w0 []) (hst : st ≤ 9223372036854775807) : Sp Try.prog 6 [c.val, .int .i64 st] w0 [] (RV (.bool true)) := by
  refine spec_enter Try.func6 rfl Try.ntmps6 rfl (Own.refl _) ?_
  simp only [argEnv]
  refine gc_seq ?_
  refine gc_region ?_
  refine gl_op (op_box rfl rfl rfl (fun b2 => ?_))
  refine gl_op (op_rd rfl (rd_assign rfl) ?_)
  refine gl_nil ?_
  refine gx_then ?_
  refine gc_seq ?_
  refine gc_seq ?_
  refine gc_region ?_
  refine gl_op (op_rd rfl (rd_loadAgg Try.underlying25 rfl ty_25 rfl (by first | exact cs_blk 0 (off := 0) (k := 3) rfl rfl | exact cs_old (by assumption) (by simp)) rfl) ?_)
  refine gl_op (op_rd rfl (rd_move rfl) ?_)
  refine gl_op (op_call rfl (vf := []) (vc := []) rfl rfl Try.call13 (fun w ho => sound_ok c st 0 w (hc.at ho) hst (by decide)) ?_)
  rintro _ _ ⟨rfl, rfl⟩
  refine gk_bool (fun hr => ?_) (fun hr => ?_)
  · skip
    have hr0 := of_decide_eq_true hr
    have hgd := Circ.good (Circ.of_ready hr0).1
    have hi0 := hgd.i0
    have hi8 := hgd.i8
    have hg12 := hgd.g12
    refine gl_op (op_rd rfl (rd_not rfl) ?_)
    refine gl_nil ?_
    refine gx_then ?_
    refine gc_cond_f rfl ?_
    refine gc_skip ?_
    refine gx_then ?_
    refine gc_seq ?_
    refine gc_seq ?_
    refine gc_region ?_
    refine gl_op (op_rd rfl (rd_assign rfl) ?_)
    refine gl_nil ?_
    refine gx_then ?_
    refine gc_block ?_
    refine gc_loopF (ι := Nat) [(1, _), (2, _)] [_] (fun j => j ≤ c.gates.length ∧ ∀ k g, k < j → c.gates[k]? = some g → g.kind ≠ 7 ∧ ∀ n ∈ g.ins, n < c.inputs + (k : Int)) (fun j Fr0 => ((5, natV j) :: Fr0)) (fun j Fr0 => Fr0) (fun j => c.gates.length - j) 0 (⟨Nat.zero_le _, fun k g h => absurd h (Nat.not_lt_zero k)⟩) ⟨rfl, rfl, rfl, trivial⟩ ⟨[0], by decide, rfl⟩ ?_
    rintro k ⟨hk, hno⟩
    refine gc_seq ?_
    refine gc_seq ?_
    refine gc_region ?_
    refine gl_op (op_rd rfl (rd_move rfl) ?_)
    refine gl_op (op_rd rfl (rd_fieldAddr rfl (fa_25_1 _)) ?_)
    refine gl_op (op_rd rfl (rd_load Try.underlying22 rfl rfl (by first | exact ld_blk 0 rfl rfl | exact ld_old (by assumption) (by simp) | exact ld_cells (by assumption) (by simp) rfl)) ?_)
    refine gl_op (op_rd rfl (rd_lenSlice Try.underlying22 rfl) ?_)
    refine gl_op (op_rd rfl (rd_lss rfl rfl) (gk_dec (fun hlt => ?_) (fun hlt => ?_)))
    · skip
      obtain ⟨g, hg⟩ : ∃ g, c.gates[k]? = some g := ⟨c.gates[k]'(by omega), List.getElem?_eq_getElem (by omega)⟩
      have hgm := List.mem_of_getElem? hg
      have hin4 := hgd.in4 g hgm
      have hgi := hc.ins g hgm
      have hgk : k < c.gates.length := by omega
      refine gl_nil ?_
      refine gx_then ?_
      refine gc_cond_t rfl ?_
      refine gc_skip ?_
      refine gx_then ?_
      refine gc_seq ?_
      refine gc_block ?_
      refine gc_seq ?_
      refine gc_seq ?_
      refine gc_region ?_
      refine gl_op (op_rd rfl (rd_fieldAddr rfl (fa_25_1 _)) ?_)
      refine gl_op (op_rd rfl (rd_load Try.underlying22 rfl rfl (by first | exact ld_blk 0 rfl rfl | exact ld_old (by assumption) (by simp) | exact ld_cells (by assumption) (by simp) rfl)) ?_)
      refine gl_op (op_rd rfl (rd_move rfl) ?_)
      refine gl_op (op_rd rfl (rd_indexOld hc.gates Try.underlying22 ty_48 rfl rfl (by omega) (by omega)) ?_)
      refine gl_op (op_rd rfl (rd_fieldAddr rfl (fa_48_0 _)) ?_)
      refine gl_op (op_rd rfl (rd_load Try.underlying3 rfl rfl (ld_slf hc.gates (get_flat Gate.cells 2 (fun _ => rfl) hg (j := 0) (by decide) rfl))) ?_)
      refine gl_op (op_rd rfl (rd_eql rfl rfl) (gk_dec (fun h7 => ?_) (fun h7 => ?_)))
      · skip
        refine gl_nil ?_
        refine gx_then ?_
        refine gc_cond_t rfl ?_
        refine gc_seq ?_
        refine gc_region ?_
        refine gl_op (op_call rfl (vf := []) (vc := []) rfl rfl Try.call12 (fun w ho => awake_ok w (fun c im h hg => facts c im h hg)) ?_)
        rintro _ _ ⟨rfl, rfl⟩
        refine gl_op (op_rd rfl (rd_assign rfl) ?_)
        refine gl_nil ?_
        refine gx_then ?_
        refine gc_ret ?_
        refine gx_then_ret ?_
        refine gx_block_ret ?_
        refine gx_then_ret ?_
        refine gx_then_ret ?_
        refine gx_block_ret ?_
        refine gx_then_ret ?_
        refine gx_ret1 (.inl rfl) Try.results6 rfl [] (by decide) ?_
        exact ⟨rfl, rfl⟩
      · skip
        refine gl_nil ?_
        refine gx_then ?_
        refine gc_cond_f rfl ?_
        refine gc_skip ?_
        refine gx_then ?_
        refine gc_seq ?_
        refine gc_region ?_
        refine gl_op (op_rd rfl (rd_assign rfl) ?_)
        refine gl_nil ?_
        refine gx_then ?_
        refine gc_block ?_
        refine gc_loopF (ι := Nat) [(1, _), (2, _), (5, _)] [_] (fun j => j ≤ g.ins.length ∧ ∀ q, q < j → g.ins.getD q 0 < c.inputs + (k : Int)) (fun j Fr0 => ((6, natV j) :: Fr0)) (fun j Fr0 => Fr0) (fun j => g.ins.length - j) 0 (⟨Nat.zero_le _, fun q h => absurd h (Nat.not_lt_zero q)⟩) ⟨rfl, rfl, rfl, rfl, trivial⟩ ⟨[0], by decide, rfl⟩ ?_
        rintro i ⟨hi, hall⟩
        refine gc_seq ?_
        refine gc_seq ?_
        refine gc_region ?_
        refine gl_op (op_rd rfl (rd_move rfl) ?_)
        refine gl_op (op_rd rfl (rd_fieldAddr rfl (fa_25_1 _)) ?_)
        refine gl_op (op_rd rfl (rd_load Try.underlying22 rfl rfl (by first | exact ld_blk 0 rfl rfl | exact ld_old (by assumption) (by simp) | exact ld_cells (by assumption) (by simp) rfl)) ?_)
        refine gl_op (op_rd rfl (rd_move rfl) ?_)
        refine gl_op (op_rd rfl (rd_indexOld hc.gates Try.underlying22 ty_48 rfl rfl (by omega) (by omega)) ?_)
        refine gl_op (op_rd rfl (rd_fieldAddr rfl (fa_48_1 _)) ?_)
        refine gl_op (op_rd rfl (rd_load Try.underlying23 rfl rfl (ld_slf hc.gates (get_flat Gate.cells 2 (fun _ => rfl) hg (j := 1) (by decide) rfl))) ?_)
        refine gl_op (op_rd rfl (rd_lenSlice Try.underlying23 rfl) ?_)
        refine gl_op (op_rd rfl (rd_lss rfl rfl) (gk_dec (fun hlt2 => ?_) (fun hlt2 => ?_)))
        · skip
          refine gl_nil ?_
          refine gx_then ?_
          refine gc_cond_t rfl ?_
          refine gc_skip ?_
          refine gx_then ?_
          refine gc_seq ?_
          refine gc_block ?_
          refine gc_seq ?_
          refine gc_drawP [0] true 13 rfl ?_
          refine ga_first 0 #[true, false, false, false, false, false, false, false, false, false, false, false, false, false] rfl rfl rfl rfl (by kernel_rfl) rfl ⟨[0], by decide, rfl⟩ (qt_rd (rd_fieldAddr rfl (fa_25_1 _))) ?_
          refine ga_first 1 #[true, true, false, false, false, false, false, false, false, false, false, false, false, false] rfl rfl rfl rfl (by kernel_rfl) rfl ⟨[0], by decide, rfl⟩ (qt_rd (rd_load Try.underlying22 rfl rfl (by first | exact ld_blk 0 rfl rfl | exact ld_old (by assumption) (by simp) | exact ld_cells (by assumption) (by simp) rfl))) ?_
          refine ga_first 2 #[true, true, true, false, false, false, false, false, false, false, false, false, false, false] rfl rfl rfl rfl (by kernel_rfl) rfl ⟨[0], by decide, rfl⟩ (qt_rd (rd_move rfl)) ?_
          refine ga_first 3 #[true, true, true, true, false, false, false, false, false, false, false, false, false, false] rfl rfl rfl rfl (by kernel_rfl) rfl ⟨[0], by decide, rfl⟩ (qt_rd (rd_indexOld hc.gates Try.underlying22 ty_48 rfl rfl (by omega) (by omega))) ?_
          refine ga_first 4 #[true, true, true, true, true, false, false, false, false, false, false, false, false, false] rfl rfl rfl rfl (by kernel_rfl) rfl ⟨[0], by decide, rfl⟩ (qt_rd (rd_fieldAddr rfl (fa_48_1 _))) ?_
          refine ga_first 5 #[true, true, true, true, true, true, false, false, false, false, false, false, false, false] rfl rfl rfl rfl (by kernel_rfl) rfl ⟨[0], by decide, rfl⟩ (qt_rd (rd_load Try.underlying23 rfl rfl (ld_slf hc.gates (get_flat Gate.cells 2 (fun _ => rfl) hg (j := 1) (by decide) rfl)))) ?_
          refine ga_first 6 #[true, true, true, true, true, true, true, false, false, false, false, false, false, false] rfl rfl rfl rfl (by kernel_rfl) rfl ⟨[0], by decide, rfl⟩ (qt_rd (rd_move rfl)) ?_
          refine ga_first 7 #[true, true, true, true, true, true, true, true, false, false, false, false, false, false] rfl rfl rfl rfl (by kernel_rfl) rfl ⟨[0], by decide, rfl⟩ (qt_rd (rd_indexOld1 hgi Try.underlying23 ty_3 rfl rfl (by omega) (by omega))) ?_
          refine ga_first 8 #[true, true, true, true, true, true, true, true, true, false, false, false, false, false] rfl rfl rfl rfl (by kernel_rfl) rfl ⟨[0], by decide, rfl⟩ (qt_rd (rd_load Try.underlying3 rfl rfl (ld_slN hgi (get_ints (by omega))))) ?_
          refine ga_first 9 #[true, true, true, true, true, true, true, true, true, true, false, false, false, false] rfl rfl rfl rfl (by kernel_rfl) rfl ⟨[0], by decide, rfl⟩ (qt_rd (rd_fieldAddr rfl (fa_25_0 _))) ?_
          refine ga_first 10 #[true, true, true, true, true, true, true, true, true, true, true, false, false, false] rfl rfl rfl rfl (by kernel_rfl) rfl ⟨[0], by decide, rfl⟩ (qt_rd (rd_load Try.underlying3 rfl rfl (by first | exact ld_blk 0 rfl rfl | exact ld_slN (by assumption) (get_nats (by omega)) | exact ld_slN (by assumption) (get_ints (by omega)) | exact ld_old (by assumption) (by simp) | exact ld_cells (by assumption) (by simp) rfl))) ?_
          refine ga_first 11 #[true, true, true, true, true, true, true, true, true, true, true, true, false, false] rfl rfl rfl rfl (by kernel_rfl) rfl ⟨[0], by decide, rfl⟩ (qt_rd (rd_move rfl)) ?_
          refine ga_first 12 #[true, true, true, true, true, true, true, true, true, true, true, true, true, false] rfl rfl rfl rfl (by kernel_rfl) rfl ⟨[0], by decide, rfl⟩ (qt_rd (rd_add rfl rfl (by omega) (by omega))) ?_
          refine ga_first 13 #[true, true, true, true, true, true, true, true, true, true, true, true, true, true] rfl rfl rfl rfl (by kernel_rfl) rfl ⟨[0], by decide, rfl⟩ (qt_rd (rd_geq rfl rfl)) (gk_dec (fun hge => ?_) (fun hge => ?_))
          · skip
            refine ga_end (by kernel_rfl) (.inr ⟨[0], by decide, rfl⟩) ?_
            refine gx_then ?_
            refine gc_cond_t rfl ?_
            refine gc_seq ?_
            refine gc_region ?_
            refine gl_op (op_call rfl (vf := []) (vc := []) rfl rfl Try.call12 (fun w ho => awake_ok w (fun c im h hg => facts c im h hg)) ?_)
            rintro _ _ ⟨rfl, rfl⟩
            refine gl_op (op_rd rfl (rd_assign rfl) ?_)
            refine gl_nil ?_
            refine gx_then ?_
            refine gc_ret ?_
            refine gx_block_ret ?_
            refine gx_then_ret ?_
            refine gx_then_ret ?_
            refine gx_block_ret ?_
            refine gx_block_ret ?_
            refine gx_then_ret ?_
            refine gx_then_ret ?_
            refine gx_block_ret ?_
            refine gx_then_ret ?_
            refine gx_ret1 (.inl rfl) Try.results6 rfl [] (by decide) ?_
            exact ⟨rfl, rfl⟩
          · skip
            refine ga_end (by kernel_rfl) (.inr ⟨[0], by decide, rfl⟩) ?_
            refine gx_then ?_
            refine gc_cond_f rfl ?_
            refine gc_skip ?_
            refine gx_block ?_
            refine gx_then ?_
            refine gc_region ?_
            refine gl_op (op_rd rfl (rd_move rfl) ?_)
            refine gl_op (op_rd rfl (by first | exact rd_addN (b := 1) rfl rfl (by omega) | exact rd_add rfl rfl (by omega) (by omega)) ?_)
            refine gl_op (op_rd rfl (rd_assign rfl) ?_)
            refine gl_nil ?_
            refine gx_then ?_
            exact gx_cut (i + 1) ⟨⟨by omega, fun q hq => by rcases Nat.lt_succ_iff_lt_or_eq.1 hq with h | rfl; exact hall q h; omega⟩, by omega⟩ ⟨rfl, rfl, rfl, rfl, trivial⟩ ⟨[0], by decide, rfl⟩
        · skip
          refine gl_nil ?_
          refine gx_then ?_
          refine gc_cond_f rfl ?_
          refine gc_exit ?_
          refine gx_then_exit ?_
          refine gx_then_exit ?_
          refine gx_block_exit ?_
          refine gx_block ?_
          refine gx_then ?_
          refine gc_region ?_
          refine gl_op (op_rd rfl (rd_move rfl) ?_)
          refine gl_op (op_rd rfl (by first | exact rd_addN (b := 1) rfl rfl (by omega) | exact rd_add rfl rfl (by omega) (by omega)) ?_)
          refine gl_op (op_rd rfl (rd_assign rfl) ?_)
          refine gl_nil ?_
          refine gx_then ?_
          exact gx_cut (k + 1) ⟨⟨by omega, fun k' g' hk' hg' => by
            rcases Nat.lt_succ_iff_lt_or_eq.1 hk' with h | rfl
            · exact hno k' g' h hg'
            · rw [hg] at hg'; cases hg'
              exact ⟨fun e => h7 (by rw [e]), fun n hn => by
                obtain ⟨q, hq, rfl⟩ := getD_of_mem 0 hn
                exact hall q (by omega)⟩⟩, by omega⟩ ⟨rfl, rfl, rfl, trivial⟩ ⟨[0], by decide, rfl⟩
    · skip
      refine gl_nil ?_
      refine gx_then ?_
      refine gc_cond_f rfl ?_
      refine gc_exit ?_
      refine gx_then_exit ?_
      refine gx_then_exit ?_
      refine gx_block_exit ?_
      refine gx_then ?_
      refine gc_seq ?_
      refine gc_region ?_
      refine gl_op (op_rd rfl (rd_loadAgg Try.underlying25 rfl ty_25 rfl (by first | exact cs_blk 0 (off := 0) (k := 3) rfl rfl | exact cs_old (by assumption) (by simp)) rfl) ?_)
      refine gl_op (op_rd rfl (rd_move rfl) ?_)
      have hP := plain_accept (c := c) (st := st) (fun k g hg => hno k g (by have := (List.getElem?_eq_some_iff.1 hg).1; omega) hg) hr0
      refine gl_op (op_call rfl (vf := []) (vc := []) rfl rfl Try.call26 (fun w ho => Accept_ok c st w (hc.at ho) hst) ?_)
      rintro _ _ ⟨ra, ca, rb, cb, rfl, rfl⟩
      obtain ⟨V, hV⟩ : ∃ V, acceptR c st = V := ⟨_, rfl⟩
      rw [hV] at hP
      simp only [hV]
      refine gl_op (op_rd rfl (rd_move rfl) ?_)
      refine gl_op (op_rd rfl (rd_extract rfl rfl) ?_)
      refine gl_op (op_rd rfl (rd_extract rfl rfl) ?_)
      refine gl_op (op_alloc ty_50 rfl rfl (fun b7 => ?_))
      first | refine gl_op (op_storeAgg 0 ty_50 rfl rfl rfl rfl rfl rfl (by first | rfl | (simp only [List.set_cons_succ, List.set_cons_zero]; exact rfl)) ?_) | refine gl_op (op_storeAgg 3 ty_50 rfl rfl rfl rfl rfl rfl (by first | rfl | (simp only [List.set_cons_succ, List.set_cons_zero]; exact rfl)) ?_)
      refine gl_op (op_rd rfl (rd_assign rfl) ?_)
      refine gl_nil ?_
      refine gx_then ?_
      refine gc_seq ?_
      refine gc_region ?_
      refine gl_op (op_rd rfl (rd_move rfl) ?_)
      refine gl_op (op_rd rfl (rd_eql rfl rfl) (gk_dec (fun h5 => ?_) (fun h5 => ?_)))
      · skip
        refine gl_op (op_rd rfl (rd_move rfl) ?_)
        refine gl_no rfl rfl rfl ?_
        refine gl_no rfl rfl rfl ?_
        refine gl_no rfl rfl rfl ?_
        refine gl_noU rfl rfl rfl ?_
        refine gl_noU rfl rfl rfl ?_
        refine gl_no rfl rfl rfl ?_
        refine gl_op (op_rd rfl (rd_pick_t rfl rfl) ?_)
        refine gl_op (op_rd rfl (rd_move rfl) ?_)
        refine gl_yes rfl rfl (op_call rfl (vf := []) (vc := []) rfl rfl Try.call12 (fun w ho => awake_ok w (fun c im h hg => facts c im h hg)) ?_)
        rintro _ _ ⟨rfl, rfl⟩
        refine gl_op (op_rd rfl (rd_pick_t rfl rfl) ?_)
        refine gl_op (op_rd rfl (rd_assign rfl) ?_)
        refine gl_nil ?_
        refine gx_then ?_
        refine gc_ret ?_
        refine gx_ret1 (.inl rfl) Try.results6 rfl [] (by decide) ?_
        exact ⟨rfl, rfl⟩
      · skip
        refine gl_op (op_rd rfl (rd_move rfl) ?_)
        refine gl_yes rfl rfl (op_rd rfl (rd_move rfl) ?_)
        refine gl_yes rfl rfl (op_rd rfl (rd_eql rfl rfl) (gk_dec (fun h0 => ?_) (fun h0 => ?_)))
        · skip
          have hgood : V.good = true := by rcases hP with h | ⟨_, h⟩; exact absurd h h5; exact h
          refine gl_yes rfl rfl (op_rd rfl (rd_move rfl) ?_)
          refine gl_yes rfl rfl (op_rd rfl (rd_fieldAddr rfl (fa_50_0 _)) ?_)
          refine gl_yes rfl rfl (op_rd rfl (rd_load Try.underlying4 rfl rfl (by first | exact ld_blk 0 rfl rfl | exact ld_blk 3 rfl rfl | exact ld_rowN 1 rfl (get_bools (by omega)) | exact ld_rowN 2 rfl (get_bools (by omega)) | exact ld_slN (by assumption) (get_bools (by omega)) | exact ld_old (by assumption) (by simp) | exact ld_cells (by assumption) (by simp) rfl)) ?_)
          rw [hgood]
          refine gl_yes rfl rfl (op_rd rfl (rd_pick_t rfl rfl) ?_)
          refine gl_op (op_rd rfl (rd_pick_f rfl rfl) ?_)
          refine gl_op (op_rd rfl (rd_move rfl) ?_)
          refine gl_yes rfl rfl (op_call rfl (vf := []) (vc := []) rfl rfl Try.call12 (fun w ho => awake_ok w (fun c im h hg => facts c im h hg)) ?_)
          rintro _ _ ⟨rfl, rfl⟩
          refine gl_op (op_rd rfl (rd_pick_t rfl rfl) ?_)
          refine gl_op (op_rd rfl (rd_assign rfl) ?_)
          refine gl_nil ?_
          refine gx_then ?_
          refine gc_ret ?_
          refine gx_ret1 (.inl rfl) Try.results6 rfl [] (by decide) ?_
          exact ⟨rfl, rfl⟩
        · skip
          rcases hP with h | ⟨h, _⟩
          · exact absurd h h5
          · exact absurd h h0
  · skip
    refine gl_op (op_rd rfl (rd_not rfl) ?_)
    refine gl_nil ?_
    refine gx_then ?_
    refine gc_cond_t rfl ?_
    refine gc_seq ?_
    refine gc_region ?_
    refine gl_op (op_call rfl (vf := []) (vc := []) rfl rfl Try.call12 (fun w ho => awake_ok w (fun c im h hg => facts c im h hg)) ?_)
    rintro _ _ ⟨rfl, rfl⟩
    refine gl_op (op_rd rfl (rd_assign rfl) ?_)
    refine gl_nil ?_
    refine gx_then ?_
    refine gc_ret ?_
    refine gx_then_ret ?_
    refine gx_ret1 (.inl rfl) Try.results6 rfl [] (by decide) ?_
    exact ⟨rfl, rfl⟩

set_option maxRecDepth 100000 in
set_option maxHeartbeats 1000000 in
theorem RelaysAccepts_ok (c : Circ) (st : Int) (ins : List Int) (a : Option Addr) (icp : Nat) (w0 : World) (hc : c.In w0 []) (hst : st ≤ 9223372036854775807) (hsl : OldSl w0 [] a ins.length 1 (ins.map intV)) (hins : ∀ z ∈ ins, z ≤ 9223372036854775807) (hb : ins.length ≤ 140737488355328) : Sp Try.prog 8 [c.val, .int .i64 st, .slice a ins.length icp] w0 [] (RV (.bool true)) := by
  refine spec_enter Try.func8 rfl Try.ntmps8 rfl (Own.refl _) ?_
  simp only [argEnv]
  refine gc_seq ?_
  refine gc_region ?_
  refine gl_op (op_box rfl rfl rfl (fun b3 => ?_))
  refine gl_op (op_rd rfl (rd_assign rfl) ?_)
  refine gl_nil ?_
  refine gx_then ?_
  refine gc_seq ?_
  refine gc_seq ?_
  refine gc_region ?_
  refine gl_op (op_rd rfl (rd_move rfl) ?_)
  refine gl_op (op_rd rfl (rd_lenSlice Try.underlying23 rfl) ?_)
  refine gl_op (op_rd rfl (rd_gtr rfl rfl) (gk_dec (fun h40 => ?_) (fun h40 => ?_)))
  · skip
    refine gl_nil ?_
    refine gx_then ?_
    refine gc_cond_t rfl ?_
    refine gc_seq ?_
    refine gc_region ?_
    refine gl_op (op_call rfl (vf := []) (vc := []) rfl rfl Try.call12 (fun w ho => awake_ok w (fun c im h hg => facts c im h hg)) ?_)
    rintro _ _ ⟨rfl, rfl⟩
    refine gl_op (op_rd rfl (rd_assign rfl) ?_)
    refine gl_nil ?_
    refine gx_then ?_
    refine gc_ret ?_
    refine gx_then_ret ?_
    refine gx_ret1 (.inl rfl) Try.results8 rfl [] (by decide) ?_
    exact ⟨rfl, rfl⟩
  · skip
    refine gl_nil ?_
    refine gx_then ?_
    refine gc_cond_f rfl ?_
    refine gc_skip ?_
    refine gx_then ?_
    refine gc_seq ?_
    refine gc_region ?_
    refine gl_op (op_rd rfl (rd_loadAgg Try.underlying25 rfl ty_25 rfl (by first | exact cs_blk 0 (off := 0) (k := 3) rfl rfl | exact cs_old (by assumption) (by simp)) rfl) ?_)
    refine gl_op (op_rd rfl (rd_move rfl) ?_)
    have hvl := accept_len c st
    have hrl := run_len c st ins
    refine gl_op (op_call rfl (vf := []) (vc := []) rfl rfl Try.call26 (fun w ho => Accept_ok c st w (hc.at ho) hst) ?_)
    rintro _ _ ⟨ra, ca, rb, cb, rfl, rfl⟩
    obtain ⟨V, hV⟩ : ∃ V, acceptR c st = V := ⟨_, rfl⟩
    rw [hV] at hvl
    simp only [hV]
    refine gl_op (op_rd rfl (rd_move rfl) ?_)
    refine gl_op (op_rd rfl (rd_extract rfl rfl) ?_)
    refine gl_op (op_rd rfl (rd_extract rfl rfl) ?_)
    refine gl_op (op_alloc ty_50 rfl rfl (fun b7 => ?_))
    first | refine gl_op (op_storeAgg 0 ty_50 rfl rfl rfl rfl rfl rfl (by first | rfl | (simp only [List.set_cons_succ, List.set_cons_zero]; exact rfl)) ?_) | refine gl_op (op_storeAgg 3 ty_50 rfl rfl rfl rfl rfl rfl (by first | rfl | (simp only [List.set_cons_succ, List.set_cons_zero]; exact rfl)) ?_)
    refine gl_op (op_rd rfl (rd_assign rfl) ?_)
    refine gl_nil ?_
    refine gx_then ?_
    refine gc_seq ?_
    refine gc_region ?_
    refine gl_op (op_rd rfl (rd_loadAgg Try.underlying25 rfl ty_25 rfl (by first | exact cs_blk 0 (off := 0) (k := 3) rfl rfl | exact cs_blk 3 (off := 0) (k := 3) rfl rfl | exact cs_old (by assumption) (by simp)) rfl) ?_)
    refine gl_op (op_rd rfl (rd_move rfl) ?_)
    refine gl_op (op_call rfl (vf := []) (vc := []) rfl rfl Try.call30 (fun w ho => rAccept_ok c st w (hc.at ho) hst) ?_)
    rintro _ _ ⟨rc, cc, rd, cd, rfl, rfl⟩
    simp only [hV]
    refine gl_op (op_rd rfl (rd_move rfl) ?_)
    refine gl_op (op_rd rfl (rd_extract rfl rfl) ?_)
    refine gl_op (op_rd rfl (rd_extract rfl rfl) ?_)
    refine gl_op (op_alloc ty_50 rfl rfl (fun b9 => ?_))
    first | refine gl_op (op_storeAgg 0 ty_50 rfl rfl rfl rfl rfl rfl (by first | rfl | (simp only [List.set_cons_succ, List.set_cons_zero]; exact rfl)) ?_) | refine gl_op (op_storeAgg 3 ty_50 rfl rfl rfl rfl rfl rfl (by first | rfl | (simp only [List.set_cons_succ, List.set_cons_zero]; exact rfl)) ?_) | refine gl_op (op_storeAgg 6 ty_50 rfl rfl rfl rfl rfl rfl (by first | rfl | (simp only [List.set_cons_succ, List.set_cons_zero]; exact rfl)) ?_)
    refine gl_op (op_rd rfl (rd_assign rfl) ?_)
    refine gl_nil ?_
    refine gx_then ?_
    refine gc_seq ?_
    refine gc_seq ?_
    refine gc_region ?_
    refine gl_op (op_rd rfl (rd_fieldAddr rfl (fa_50_0 _)) ?_)
    refine gl_op (op_rd rfl (rd_load Try.underlying4 rfl rfl (by first | exact ld_blk 0 rfl rfl | exact ld_blk 3 rfl rfl | exact ld_blk 6 rfl rfl | exact ld_rowN 1 rfl (get_bools (by omega)) | exact ld_rowN 2 rfl (get_bools (by omega)) | exact ld_rowN 4 rfl (get_bools (by omega)) | exact ld_rowN 5 rfl (get_bools (by omega)) | exact ld_slN (by assumption) (get_bools (by omega)) | exact ld_old (by assumption) (by simp) | exact ld_cells (by assumption) (by simp) rfl)) ?_)
    refine gl_op (op_rd rfl (rd_fieldAddr rfl (fa_50_0 _)) ?_)
    refine gl_op (op_rd rfl (rd_load Try.underlying4 rfl rfl (by first | exact ld_blk 0 rfl rfl | exact ld_blk 3 rfl rfl | exact ld_blk 6 rfl rfl | exact ld_rowN 1 rfl (get_bools (by omega)) | exact ld_rowN 2 rfl (get_bools (by omega)) | exact ld_rowN 4 rfl (get_bools (by omega)) | exact ld_rowN 5 rfl (get_bools (by omega)) | exact ld_slN (by assumption) (get_bools (by omega)) | exact ld_old (by assumption) (by simp) | exact ld_cells (by assumption) (by simp) rfl)) ?_)
    refine gl_op (op_rd rfl (rd_neqb Try.runUnderlying4 rfl rfl) ?_)
    rw [show (V.good != V.good) = false by simp]
    refine gl_op (op_rd rfl (rd_move rfl) ?_)
    refine gl_yes rfl rfl (op_rd rfl (rd_fieldAddr rfl (fa_50_1 _)) ?_)
    refine gl_yes rfl rfl (op_rd rfl (rd_load Try.underlying3 rfl rfl (by first | exact ld_blk 0 rfl rfl | exact ld_blk 3 rfl rfl | exact ld_blk 6 rfl rfl | exact ld_rowN 1 rfl (get_nats (by omega)) | exact ld_rowN 2 rfl (get_nats (by omega)) | exact ld_rowN 4 rfl (get_nats (by omega)) | exact ld_rowN 5 rfl (get_nats (by omega)) | exact ld_slN (by assumption) (get_nats (by omega)) | exact ld_rowN 1 rfl (get_ints (by omega)) | exact ld_rowN 2 rfl (get_ints (by omega)) | exact ld_rowN 4 rfl (get_ints (by omega)) | exact ld_rowN 5 rfl (get_ints (by omega)) | exact ld_slN (by assumption) (get_ints (by omega)) | exact ld_old (by assumption) (by simp) | exact ld_cells (by assumption) (by simp) rfl)) ?_)
    refine gl_yes rfl rfl (op_rd rfl (rd_fieldAddr rfl (fa_50_1 _)) ?_)
    refine gl_yes rfl rfl (op_rd rfl (rd_load Try.underlying3 rfl rfl (by first | exact ld_blk 0 rfl rfl | exact ld_blk 3 rfl rfl | exact ld_blk 6 rfl rfl | exact ld_rowN 1 rfl (get_nats (by omega)) | exact ld_rowN 2 rfl (get_nats (by omega)) | exact ld_rowN 4 rfl (get_nats (by omega)) | exact ld_rowN 5 rfl (get_nats (by omega)) | exact ld_slN (by assumption) (get_nats (by omega)) | exact ld_rowN 1 rfl (get_ints (by omega)) | exact ld_rowN 2 rfl (get_ints (by omega)) | exact ld_rowN 4 rfl (get_ints (by omega)) | exact ld_rowN 5 rfl (get_ints (by omega)) | exact ld_slN (by assumption) (get_ints (by omega)) | exact ld_old (by assumption) (by simp) | exact ld_cells (by assumption) (by simp) rfl)) ?_)
    refine gl_yes rfl rfl (op_rd rfl (rd_neq rfl rfl) (gk_dec (fun h39 => ?_) (fun h39 => ?_)))
    · skip
      exact absurd rfl h39
    · skip
      refine gl_op (op_rd rfl (rd_pick_f rfl rfl) ?_)
      refine gl_op (op_rd rfl (rd_move rfl) ?_)
      refine gl_yes rfl rfl (op_rd rfl (rd_fieldAddr rfl (fa_50_2 _)) ?_)
      refine gl_yes rfl rfl (op_rd rfl (rd_load Try.underlying3 rfl rfl (by first | exact ld_blk 0 rfl rfl | exact ld_blk 3 rfl rfl | exact ld_blk 6 rfl rfl | exact ld_rowN 1 rfl (get_nats (by omega)) | exact ld_rowN 2 rfl (get_nats (by omega)) | exact ld_rowN 4 rfl (get_nats (by omega)) | exact ld_rowN 5 rfl (get_nats (by omega)) | exact ld_slN (by assumption) (get_nats (by omega)) | exact ld_rowN 1 rfl (get_ints (by omega)) | exact ld_rowN 2 rfl (get_ints (by omega)) | exact ld_rowN 4 rfl (get_ints (by omega)) | exact ld_rowN 5 rfl (get_ints (by omega)) | exact ld_slN (by assumption) (get_ints (by omega)) | exact ld_old (by assumption) (by simp) | exact ld_cells (by assumption) (by simp) rfl)) ?_)
      refine gl_yes rfl rfl (op_rd rfl (rd_fieldAddr rfl (fa_50_2 _)) ?_)
      refine gl_yes rfl rfl (op_rd rfl (rd_load Try.underlying3 rfl rfl (by first | exact ld_blk 0 rfl rfl | exact ld_blk 3 rfl rfl | exact ld_blk 6 rfl rfl | exact ld_rowN 1 rfl (get_nats (by omega)) | exact ld_rowN 2 rfl (get_nats (by omega)) | exact ld_rowN 4 rfl (get_nats (by omega)) | exact ld_rowN 5 rfl (get_nats (by omega)) | exact ld_slN (by assumption) (get_nats (by omega)) | exact ld_rowN 1 rfl (get_ints (by omega)) | exact ld_rowN 2 rfl (get_ints (by omega)) | exact ld_rowN 4 rfl (get_ints (by omega)) | exact ld_rowN 5 rfl (get_ints (by omega)) | exact ld_slN (by assumption) (get_ints (by omega)) | exact ld_old (by assumption) (by simp) | exact ld_cells (by assumption) (by simp) rfl)) ?_)
      refine gl_yes rfl rfl (op_rd rfl (rd_neq rfl rfl) (gk_dec (fun h46 => ?_) (fun h46 => ?_)))
      · skip
        exact absurd rfl h46
      · skip
        refine gl_op (op_rd rfl (rd_pick_f rfl rfl) ?_)
        refine gl_op (op_rd rfl (rd_move rfl) ?_)
        refine gl_yes rfl rfl (op_rd rfl (rd_fieldAddr rfl (fa_50_3 _)) ?_)
        refine gl_yes rfl rfl (op_rd rfl (rd_loadAgg Try.underlying40 rfl ty_40 rfl (cs_blk 3 (off := 3) (k := 3) rfl rfl) rfl) ?_)
        refine gl_yes rfl rfl (op_rd rfl (rd_fieldAddr rfl (fa_50_3 _)) ?_)
        refine gl_yes rfl rfl (op_rd rfl (rd_loadAgg Try.underlying40 rfl ty_40 rfl (cs_blk 0 (off := 3) (k := 3) rfl rfl) rfl) ?_)
        refine gl_yes rfl rfl (op_call rfl (vf := []) (vc := []) rfl rfl Try.call28 (fun w ho => sameRace_t V.rc (rowA ra) (rowA rb) (rowA rc) (rowA rd) ca cb cc cd w (ho.rowSl 4 rfl) (ho.rowSl 5 rfl) (ho.rowSl 1 rfl) (ho.rowSl 2 rfl) (by omega) (by omega)) ?_)
        rintro _ _ ⟨rfl, rfl⟩
        refine gl_yes rfl rfl (op_rd rfl (rd_not rfl) ?_)
        refine gl_op (op_rd rfl (rd_pick_f rfl rfl) ?_)
        refine gl_op (op_rd rfl (rd_move rfl) ?_)
        refine gl_yes rfl rfl (op_rd rfl (rd_move rfl) ?_)
        refine gl_yes rfl rfl (op_rd rfl (rd_move rfl) ?_)
        refine gl_yes rfl rfl (op_rd rfl (rd_neq rfl rfl) (gk_dec (fun h59 => ?_) (fun h59 => ?_)))
        · skip
          exact absurd rfl h59
        · skip
          refine gl_op (op_rd rfl (rd_pick_f rfl rfl) ?_)
          refine gl_nil ?_
          refine gx_then ?_
          refine gc_cond_f rfl ?_
          refine gc_skip ?_
          refine gx_then ?_
          refine gc_seq ?_
          refine gc_region ?_
          refine gl_op (op_rd rfl (rd_loadAgg Try.underlying25 rfl ty_25 rfl (by first | exact cs_blk 0 (off := 0) (k := 3) rfl rfl | exact cs_blk 3 (off := 0) (k := 3) rfl rfl | exact cs_blk 6 (off := 0) (k := 3) rfl rfl | exact cs_old (by assumption) (by simp)) rfl) ?_)
          refine gl_op (op_rd rfl (rd_move rfl) ?_)
          refine gl_op (op_rd rfl (rd_move rfl) ?_)
          refine gl_op (op_call rfl (vf := []) (vc := []) rfl rfl Try.call31 (fun w ho => Run_ok c st ins a icp w (hc.at ho) hst (hsl.at ho) hins (by omega)) ?_)
          rintro _ _ ⟨r1, c1, rfl, rfl⟩
          obtain ⟨R, hR⟩ : ∃ R, runR c st ins = R := ⟨_, rfl⟩
          rw [hR] at hrl
          simp only [hR]
          refine gl_op (op_rd rfl (rd_move rfl) ?_)
          refine gl_op (op_rd rfl (rd_extract rfl rfl) ?_)
          refine gl_op (op_rd rfl (rd_extract rfl rfl) ?_)
          refine gl_op (op_rd rfl (rd_assign rfl) ?_)
          refine gl_op (op_rd rfl (rd_assign rfl) ?_)
          refine gl_nil ?_
          refine gx_then ?_
          refine gc_seq ?_
          refine gc_region ?_
          refine gl_op (op_rd rfl (rd_loadAgg Try.underlying25 rfl ty_25 rfl (by first | exact cs_blk 1 (off := 0) (k := 3) rfl rfl | exact cs_blk 4 (off := 0) (k := 3) rfl rfl | exact cs_blk 7 (off := 0) (k := 3) rfl rfl | exact cs_old (by assumption) (by simp)) rfl) ?_)
          refine gl_op (op_rd rfl (rd_move rfl) ?_)
          refine gl_op (op_rd rfl (rd_move rfl) ?_)
          refine gl_op (op_call rfl (vf := []) (vc := []) rfl rfl Try.call32 (fun w ho => rRun_ok c st ins a icp w (hc.at ho) hst (hsl.at ho) hins (by omega)) ?_)
          rintro _ _ ⟨r2, c2, rfl, rfl⟩
          simp only [hR]
          refine gl_op (op_rd rfl (rd_move rfl) ?_)
          refine gl_op (op_rd rfl (rd_extract rfl rfl) ?_)
          refine gl_op (op_rd rfl (rd_extract rfl rfl) ?_)
          refine gl_op (op_rd rfl (rd_assign rfl) ?_)
          refine gl_op (op_rd rfl (rd_assign rfl) ?_)
          refine gl_nil ?_
          refine gx_then ?_
          refine gc_seq ?_
          refine gc_region ?_
          refine gl_op (op_rd rfl (rd_move rfl) ?_)
          refine gl_op (op_rd rfl (rd_move rfl) ?_)
          refine gl_op (op_call rfl (vf := []) (vc := []) rfl rfl Try.call25 (fun w ho => sameNats_t R.1 R.1 (rowA r1) (rowA r2) c1 c2 w (ho.rowSl 1 rfl) (ho.rowSl 0 rfl) (by omega) rfl) ?_)
          rintro _ _ ⟨rfl, rfl⟩
          refine gl_op (op_rd rfl (rd_move rfl) ?_)
          refine gl_yes rfl rfl (op_rd rfl (rd_move rfl) ?_)
          refine gl_yes rfl rfl (op_rd rfl (rd_move rfl) ?_)
          refine gl_yes rfl rfl (op_rd rfl (rd_eql rfl rfl) (gk_dec (fun h81 => ?_) (fun h81 => ?_)))
          · skip
            refine gl_op (op_rd rfl (rd_pick_t rfl rfl) ?_)
            refine gl_op (op_rd rfl (rd_move rfl) ?_)
            refine gl_yes rfl rfl (op_call rfl (vf := []) (vc := []) rfl rfl Try.call12 (fun w ho => awake_ok w (fun c im h hg => facts c im h hg)) ?_)
            rintro _ _ ⟨rfl, rfl⟩
            refine gl_op (op_rd rfl (rd_pick_t rfl rfl) ?_)
            refine gl_op (op_rd rfl (rd_assign rfl) ?_)
            refine gl_nil ?_
            refine gx_then ?_
            refine gc_ret ?_
            refine gx_ret1 (.inl rfl) Try.results8 rfl [] (by decide) ?_
            exact ⟨rfl, rfl⟩
          · skip
            exact absurd rfl h81

set_option maxRecDepth 100000 in
set_option maxHeartbeats 1000000 in
theorem RelaysAccepted_ok (c : Circ) (ins picks : List Nat) (a pa : Option Addr) (icp pcp : Nat) (w0 : World) (hc : c.In w0 []) (hsl : OldSl w0 [] a ins.length 1 (ins.map fun n : Nat => Value.int .u8 (n : Int))) (hib : ins.length ≤ 140737488355328) (hi8 : ∀ n ∈ ins, n < 256) (hpk : OldSl w0 [] pa picks.length 1 (picks.map fun n : Nat => Value.int .u8 (n : Int))) (hpl : picks.length ≤ 140737488355328) (hp8 : ∀ n ∈ picks, n < 256) : Sp Try.prog 9 [c.val, .slice a ins.length icp, .slice pa picks.length pcp] w0 [] (RV (.bool true)) := by
  refine spec_enter Try.func9 rfl Try.ntmps9 rfl (Own.refl _) ?_
  simp only [argEnv]
  refine gc_seq ?_
  refine gc_region ?_
  refine gl_op (op_box rfl rfl rfl (fun b3 => ?_))
  refine gl_op (op_rd rfl (rd_assign rfl) ?_)
  refine gl_nil ?_
  refine gx_then ?_
  refine gc_seq ?_
  refine gc_region ?_
  refine gl_op (op_rd rfl (rd_loadAgg Try.underlying25 rfl ty_25 rfl (by first | exact cs_blk 0 (off := 0) (k := 3) rfl rfl | exact cs_old (by assumption) (by simp)) rfl) ?_)
  refine gl_op (op_call rfl (vf := []) (vc := []) rfl rfl Try.call26 (fun w ho => Accept_ok c 0 w (hc.at ho) (by decide)) ?_)
  rintro _ _ ⟨ra, ca, rb, cb, rfl, rfl⟩
  obtain ⟨V, hV⟩ : ∃ V, acceptR c 0 = V := ⟨_, rfl⟩
  simp only [hV]
  refine gl_op (op_rd rfl (rd_move rfl) ?_)
  refine gl_op (op_rd rfl (rd_extract rfl rfl) ?_)
  refine gl_op (op_rd rfl (rd_extract rfl rfl) ?_)
  refine gl_op (op_alloc ty_50 rfl rfl (fun b7 => ?_))
  first | refine gl_op (op_storeAgg 0 ty_50 rfl rfl rfl rfl rfl rfl (by first | rfl | (simp only [List.set_cons_succ, List.set_cons_zero]; exact rfl)) ?_) | refine gl_op (op_storeAgg 3 ty_50 rfl rfl rfl rfl rfl rfl (by first | rfl | (simp only [List.set_cons_succ, List.set_cons_zero]; exact rfl)) ?_)
  refine gl_op (op_rd rfl (rd_assign rfl) ?_)
  refine gl_nil ?_
  refine gx_then ?_
  refine gc_seq ?_
  refine gc_seq ?_
  refine gc_region ?_
  refine gl_op (op_rd rfl (rd_move rfl) ?_)
  refine gl_op (op_rd rfl (rd_neq rfl rfl) (gk_dec (fun he => ?_) (fun he => ?_)))
  · skip
    refine gl_op (op_rd rfl (rd_move rfl) ?_)
    refine gl_no rfl rfl rfl ?_
    refine gl_no rfl rfl rfl ?_
    refine gl_no rfl rfl rfl ?_
    refine gl_op (op_rd rfl (rd_pick_t rfl rfl) ?_)
    refine gl_op (op_rd rfl (rd_move rfl) ?_)
    refine gl_no rfl rfl rfl ?_
    refine gl_no rfl rfl rfl ?_
    refine gl_no rfl rfl rfl ?_
    refine gl_op (op_rd rfl (rd_pick_t rfl rfl) ?_)
    refine gl_nil ?_
    refine gx_then ?_
    refine gc_cond_t rfl ?_
    refine gc_seq ?_
    refine gc_region ?_
    refine gl_op (op_call rfl (vf := []) (vc := []) rfl rfl Try.call12 (fun w ho => awake_ok w (fun c im h hg => facts c im h hg)) ?_)
    rintro _ _ ⟨rfl, rfl⟩
    refine gl_op (op_rd rfl (rd_assign rfl) ?_)
    refine gl_nil ?_
    refine gx_then ?_
    refine gc_ret ?_
    refine gx_then_ret ?_
    refine gx_ret1 (.inl rfl) Try.results9 rfl [] (by decide) ?_
    exact ⟨rfl, rfl⟩
  · skip
    refine gl_op (op_rd rfl (rd_move rfl) ?_)
    refine gl_yes rfl rfl (op_rd rfl (rd_fieldAddr rfl (fa_50_0 _)) ?_)
    refine gl_yes rfl rfl (op_rd rfl (rd_load Try.underlying4 rfl rfl (by first | exact ld_blk 0 rfl rfl | exact ld_blk 3 rfl rfl | exact ld_rowN 1 rfl (get_bools (by omega)) | exact ld_rowN 2 rfl (get_bools (by omega)) | exact ld_slN (by assumption) (get_bools (by omega)) | exact ld_old (by assumption) (by simp) | exact ld_cells (by assumption) (by simp) rfl)) ?_)
    refine gk_bool (fun hgood => ?_) (fun hgood => ?_)
    · skip
      refine gl_yes rfl rfl (op_rd rfl (rd_not rfl) ?_)
      refine gl_op (op_rd rfl (rd_pick_f rfl rfl) ?_)
      refine gl_op (op_rd rfl (rd_move rfl) ?_)
      refine gl_yes rfl rfl (op_rd rfl (rd_move rfl) ?_)
      refine gl_yes rfl rfl (op_rd rfl (rd_lenSlice Try.underlying27 rfl) ?_)
      refine gl_yes rfl rfl (op_rd rfl (rd_gtr rfl rfl) (gk_dec (fun h20 => ?_) (fun h20 => ?_)))
      · skip
        refine gl_op (op_rd rfl (rd_pick_f rfl rfl) ?_)
        refine gl_nil ?_
        refine gx_then ?_
        refine gc_cond_t rfl ?_
        refine gc_seq ?_
        refine gc_region ?_
        refine gl_op (op_call rfl (vf := []) (vc := []) rfl rfl Try.call12 (fun w ho => awake_ok w (fun c im h hg => facts c im h hg)) ?_)
        rintro _ _ ⟨rfl, rfl⟩
        refine gl_op (op_rd rfl (rd_assign rfl) ?_)
        refine gl_nil ?_
        refine gx_then ?_
        refine gc_ret ?_
        refine gx_then_ret ?_
        refine gx_ret1 (.inl rfl) Try.results9 rfl [] (by decide) ?_
        exact ⟨rfl, rfl⟩
      · skip
        have he0 : (acceptR c 0).err = 0 := by rw [hV]; exact Decidable.byContradiction he
        have hr0 := accept_ready he0
        have hck := (Circ.of_ready hr0).1
        have hgd := Circ.good hck
        obtain ⟨L, hL0, hL, hok⟩ := accept_good (c := c) (st := 0) hr0 (by rw [show ((0 : Nat) : Int) = 0 from rfl, hV]; exact hgood)
        have hi0 := hgd.i0
        have hi88 := hgd.i8
        have hg12 := hgd.g12
        obtain ⟨ci, hci⟩ : ∃ n : Nat, c.inputs = n := ⟨c.inputs.toNat, by omega⟩
        have hcn : c.inputs.toNat = ci := by omega
        have hp8' : 2 ^ ci ≤ 2 ^ 8 := Nat.pow_le_pow_right (by decide) (by omega)
        have hshl : 1 <<< ci = 2 ^ ci := one_shl ci
        have hpos := Nat.two_pow_pos ci
        have hl8 : ∀ x ∈ ins.map (fun n => n % 1 <<< ci), x < 2 ^ c.inputs.toNat := fun x hx => by
          obtain ⟨n, _, rfl⟩ := List.mem_map.1 hx
          rw [hcn, hshl]; exact Nat.mod_lt _ hpos
        obtain ⟨res, hres, hresl⟩ := runGo_good hck hL hok (ins.map fun n => n % 1 <<< ci) 0 [] hL0 hl8
        refine gl_op (op_rd rfl (rd_pick_f rfl rfl) ?_)
        refine gl_nil ?_
        refine gx_then ?_
        refine gc_cond_f rfl ?_
        refine gc_skip ?_
        refine gx_then ?_
        refine gc_seq ?_
        refine gc_seq ?_
        refine gc_region ?_
        refine gl_op (op_rd rfl (rd_loadAgg Try.underlying25 rfl ty_25 rfl (by first | exact cs_blk 0 (off := 0) (k := 3) rfl rfl | exact cs_blk 3 (off := 0) (k := 3) rfl rfl | exact cs_old (by assumption) (by simp)) rfl) ?_)
        refine gl_op (op_call rfl (vf := []) (vc := []) rfl rfl Try.call13 (fun w ho => sound_t c 0 0 w (hc.at ho) (by decide) (by decide) hr0) ?_)
        rintro _ _ ⟨rfl, rfl⟩
        refine gl_op (op_rd rfl (rd_not rfl) ?_)
        refine gl_nil ?_
        refine gx_then ?_
        refine gc_cond_f rfl ?_
        refine gc_skip ?_
        refine gx_then ?_
        refine gc_seq ?_
        refine gc_region ?_
        refine gl_op (op_rd rfl (rd_assign rfl) ?_)
        refine gl_nil ?_
        refine gx_then ?_
        refine gc_seq ?_
        refine gc_seq ?_
        refine gc_region ?_
        refine gl_op (op_rd rfl (rd_assign rfl) ?_)
        refine gl_nil ?_
        refine gx_then ?_
        refine gc_block ?_
        refine gk_nil 3 1 ?_
        refine gc_loopF (ι := Nat × List Nat × Option Nat × Nat) [(1, _), (2, _), (3, _)] [_, _, _, _] (fun j => j.1 ≤ ins.length ∧ j.2.1 = (ins.take j.1).map fun n => n % 1 <<< ci) (fun j Fr0 => ((10, natV j.1) :: (9, .slice (rowA j.2.2.1) j.2.1.length j.2.2.2) :: Fr0)) (fun j Fr0 => (.row 3 1 j.2.2.1 j.2.1.length j.2.2.2 (j.2.1.map natV) :: Fr0)) (fun j => ins.length - j.1) (0, [], none, 0) (⟨Nat.zero_le _, rfl⟩) ⟨rfl, rfl, rfl, rfl, rfl, trivial⟩ ⟨[0, 1, 2, 3, 4], by decide, rfl⟩ ?_
        rintro ⟨i, ls, rl, cl⟩ ⟨hi, hls⟩
        simp only at hi hls ⊢
        have hll : ls.length = i := by rw [hls]; simp; omega
        refine gc_seq ?_
        refine gc_seq ?_
        refine gc_region ?_
        refine gl_op (op_rd rfl (rd_move rfl) ?_)
        refine gl_op (op_rd rfl (rd_move rfl) ?_)
        refine gl_op (op_rd rfl (rd_lenSlice Try.underlying27 rfl) ?_)
        refine gl_op (op_rd rfl (rd_lss rfl rfl) (gk_dec (fun hlt => ?_) (fun hlt => ?_)))
        · skip
          have hil : i < ins.length := by omega
          have h256 := hi8 _ (mem_getD (d := 0) hil)
          refine gl_nil ?_
          refine gx_then ?_
          refine gc_cond_t rfl ?_
          refine gc_skip ?_
          refine gx_then ?_
          refine gc_seq ?_
          refine gc_block ?_
          refine gc_drawP [1, 2, 3, 4] false 13 rfl ?_
          refine ga_first 0 #[true, false, false, false, false, false, false, false, false, false, false, false, false, false] rfl rfl rfl rfl (by kernel_rfl) rfl ⟨[1, 2, 3, 4], by decide, rfl⟩ (qt_rd (rd_move rfl)) ?_
          refine ga_first 1 #[true, true, false, false, false, false, false, false, false, false, false, false, false, false] rfl rfl rfl rfl (by kernel_rfl) rfl ⟨[1, 2, 3, 4], by decide, rfl⟩ (qt_rd (rd_move rfl)) ?_
          refine ga_first 2 #[true, true, true, false, false, false, false, false, false, false, false, false, false, false] rfl rfl rfl rfl (by kernel_rfl) rfl ⟨[1, 2, 3, 4], by decide, rfl⟩ (qt_rd (rd_move rfl)) ?_
          refine ga_first 3 #[true, true, true, true, false, false, false, false, false, false, false, false, false, false] rfl rfl rfl rfl (by kernel_rfl) rfl ⟨[1, 2, 3, 4], by decide, rfl⟩ (qt_rd (by first | exact rd_indexRow1 1 rfl Try.underlying27 ty_5 rfl rfl (by omega) (by omega) | exact rd_indexRow1 2 rfl Try.underlying27 ty_5 rfl rfl (by omega) (by omega) | exact rd_indexOld1 (by assumption) Try.underlying27 ty_5 rfl rfl (by omega) (by omega) | exact rd_index1 Try.underlying27 ty_5 rfl rfl (by omega) (by omega))) ?_
          refine ga_first 4 #[true, true, true, true, true, false, false, false, false, false, false, false, false, false] rfl rfl rfl rfl (by kernel_rfl) rfl ⟨[1, 2, 3, 4], by decide, rfl⟩ (qt_rd (rd_load Try.underlying5 rfl rfl (ld_slN hsl (get_u8 hil)))) ?_
          refine ga_first 5 #[true, true, true, true, true, true, false, false, false, false, false, false, false, false] rfl rfl rfl rfl (by kernel_rfl) rfl ⟨[1, 2, 3, 4], by decide, rfl⟩ (qt_rd (rd_conv Try.runUnderlying5 Try.runUnderlying3 rfl (wrap64_ok (by omega) (by omega)))) ?_
          refine ga_first 6 #[true, true, true, true, true, true, true, false, false, false, false, false, false, false] rfl rfl rfl rfl (by kernel_rfl) rfl ⟨[1, 2, 3, 4], by decide, rfl⟩ (qt_rd (rd_fieldAddr rfl (fa_25_0 _))) ?_
          refine ga_first 7 #[true, true, true, true, true, true, true, true, false, false, false, false, false, false] rfl rfl rfl rfl (by kernel_rfl) rfl ⟨[1, 2, 3, 4], by decide, rfl⟩ (qt_rd (rd_load Try.underlying3 rfl rfl (by first | exact ld_blk 0 rfl rfl | exact ld_blk 3 rfl rfl | exact ld_rowN 1 rfl (get_nats (by omega)) | exact ld_rowN 2 rfl (get_nats (by omega)) | exact ld_slN (by assumption) (get_nats (by omega)) | exact ld_rowN 1 rfl (get_ints (by omega)) | exact ld_rowN 2 rfl (get_ints (by omega)) | exact ld_slN (by assumption) (get_ints (by omega)) | exact ld_old (by assumption) (by simp) | exact ld_cells (by assumption) (by simp) rfl))) ?_
          rw [hci]
          refine ga_first 8 #[true, true, true, true, true, true, true, true, true, false, false, false, false, false] rfl rfl rfl rfl (by kernel_rfl) rfl ⟨[1, 2, 3, 4], by decide, rfl⟩ (qt_rd (rd_conv Try.runUnderlying3 Try.runUnderlying58 rfl (wrap_u64_nat (by omega)))) ?_
          refine ga_first 9 #[true, true, true, true, true, true, true, true, true, true, false, false, false, false] rfl rfl rfl rfl (by kernel_rfl) rfl ⟨[1, 2, 3, 4], by decide, rfl⟩ (qt_rd (rd_shl (a := 1) rfl rfl (by omega) (by omega))) ?_
          refine ga_first 10 #[true, true, true, true, true, true, true, true, true, true, true, false, false, false] rfl rfl rfl rfl (by kernel_rfl) rfl ⟨[1, 2, 3, 4], by decide, rfl⟩ (qt_rd (by first | exact rd_remN rfl rfl (by omega) | exact rd_rem rfl rfl (by omega) (by omega))) ?_
          refine ga_only 11 #[true, true, true, true, true, true, true, true, true, true, true, true, false, false] rfl rfl (by kernel_rfl) rfl (.inr ⟨[1, 2, 3, 4], by decide, rfl⟩) (op_buildSlice (sz := 1) rfl rfl (fun _ => bs_23_1_0 _) rfl rfl (fun b58 => ?_))
          refine ga_only 12 #[true, true, true, true, true, true, true, true, true, true, true, true, true, false] rfl rfl (by kernel_rfl) rfl (.inr ⟨[2, 3, 4, 5], by decide, rfl⟩) (op_appendRow 1 0 Try.underlying23 ty_3 rfl (by decide) rfl rfl rfl rfl rfl (by simp [Value.oneCell']) (by omega) (by omega) (fun _ => (by first | rfl | (simp only [List.set_cons_succ, List.set_cons_zero]; exact rfl))) (fun r59 c59 => ?_))
          refine ga_only 13 #[true, true, true, true, true, true, true, true, true, true, true, true, true, true] rfl rfl (by kernel_rfl) rfl (.inr ⟨[2, 3, 4, 5], by decide, rfl⟩) (op_rd rfl (rd_assign rfl) ?_)
          refine ga_end (by kernel_rfl) (.inl (by kernel_rfl)) ?_
          refine gx_block ?_
          refine gx_then ?_
          rw [snocN, snoc_len ls (ins.getD i 0 % 1 <<< ci)]
          refine gc_region ?_
          refine gl_op (op_rd rfl (rd_move rfl) ?_)
          refine gl_op (op_rd rfl (by first | exact rd_addN (b := 1) rfl rfl (by omega) | exact rd_add rfl rfl (by omega) (by omega)) ?_)
          refine gl_op (op_rd rfl (rd_assign rfl) ?_)
          refine gl_nil ?_
          refine gx_then ?_
          exact gx_cut ((i + 1, ls ++ [ins.getD i 0 % 1 <<< ci], r59, c59)) ⟨⟨by simp only; omega, by simp only; rw [hls, List.take_succ_eq_append_getElem hil, List.map_append]; simp [hil]⟩, by simp only; omega⟩ ⟨rfl, rfl, rfl, rfl, rfl, trivial⟩ ⟨[1, 2, 3, 4, 5], by decide, rfl⟩
        · skip
          refine gl_nil ?_
          refine gx_then ?_
          refine gc_cond_f rfl ?_
          refine gc_exit ?_
          refine gx_then_exit ?_
          refine gx_then_exit ?_
          refine gx_block_exit ?_
          refine gx_then ?_
          refine gc_seq ?_
          have hie : i = ins.length := by omega
          have hls2 : ins.map (fun n => n % 1 <<< ci) = ls := by rw [hls, hie, List.take_length]
          rw [hls2] at hl8 hres hresl
          refine gc_region ?_
          refine gl_op (op_rd rfl (rd_loadAgg Try.underlying25 rfl ty_25 rfl (by first | exact cs_blk 1 (off := 0) (k := 3) rfl rfl | exact cs_blk 4 (off := 0) (k := 3) rfl rfl | exact cs_old (by assumption) (by simp)) rfl) ?_)
          refine gl_op (op_rd rfl (rd_move rfl) ?_)
          refine gl_op (op_call rfl (vf := []) (vc := []) rfl rfl Try.call31 (fun w ho => RunN_ok c ls res (rowA rl) cl w (hc.at ho) (ho.rowSl 0 rfl) (fun q hq => by have := hl8 q hq; rw [hcn] at this; omega) (by omega) hr0 hres) ?_)
          rintro _ _ ⟨r1, c1, rfl, rfl⟩
          refine gl_op (op_rd rfl (rd_move rfl) ?_)
          refine gl_op (op_rd rfl (rd_extract rfl rfl) ?_)
          refine gl_op (op_rd rfl (rd_extract rfl rfl) ?_)
          refine gl_op (op_rd rfl (rd_assign rfl) ?_)
          refine gl_op (op_rd rfl (rd_assign rfl) ?_)
          refine gl_nil ?_
          refine gx_then ?_
          refine gc_seq ?_
          refine gc_seq ?_
          refine gc_region ?_
          refine gl_op (op_rd rfl (rd_move rfl) ?_)
          refine gl_op (op_rd rfl (rd_neq rfl rfl) (gk_dec (fun h67 => ?_) (fun h67 => ?_)))
          · skip
            exact absurd rfl h67
          · skip
            refine gl_op (op_rd rfl (rd_move rfl) ?_)
            refine gl_yes rfl rfl (op_rd rfl (rd_move rfl) ?_)
            refine gl_yes rfl rfl (op_rd rfl (rd_lenSlice Try.underlying23 rfl) ?_)
            refine gl_yes rfl rfl (op_rd rfl (rd_move rfl) ?_)
            refine gl_yes rfl rfl (op_rd rfl (rd_lenSlice Try.underlying23 rfl) ?_)
            refine gl_yes rfl rfl (op_rd rfl (rd_neq rfl rfl) (gk_dec (fun h73 => ?_) (fun h73 => ?_)))
            · skip
              exact absurd (by rw [hresl]; simp) h73
            · skip
              refine gl_op (op_rd rfl (rd_pick_f rfl rfl) ?_)
              refine gl_nil ?_
              refine gx_then ?_
              refine gc_cond_f rfl ?_
              refine gc_skip ?_
              refine gx_then ?_
              refine gc_seq ?_
              refine gc_region ?_
              refine gl_op (op_rd rfl (rd_assign rfl) ?_)
              refine gl_nil ?_
              refine gx_then ?_
              refine gc_seq ?_
              refine gc_seq ?_
              refine gc_region ?_
              refine gl_op (op_rd rfl (rd_assign rfl) ?_)
              refine gl_nil ?_
              refine gx_then ?_
              refine gc_block ?_
              refine gc_loopF (ι := Nat × Nat) [(2, _), (3, _), (9, _), (11, _)] [_, _, _, _, _, _] (fun j => j.1 ≤ ls.length ∧ j.2 ∈ L ∧ runGo c ((ls.drop j.1).map fun n : Nat => (n : Int)) j.2 (res.take j.1) = (res, 0)) (fun j Fr0 => ((14, natV j.1) :: (13, natV j.2) :: Fr0)) (fun j Fr0 => Fr0) (fun j => ls.length - j.1) (0, 0) (⟨Nat.zero_le _, hL0, by simpa using hres⟩) ⟨rfl, rfl, rfl, rfl, rfl, rfl, trivial⟩ ⟨[0, 1, 2, 3, 4, 5], by decide, rfl⟩ ?_
              rintro ⟨i, s⟩ ⟨hi2, hsL, hgo⟩
              simp only at hi2 hsL hgo ⊢
              have hs := hL s hsL
              have hs12 := st_lt hgd hs
              refine gc_seq ?_
              refine gc_seq ?_
              refine gc_region ?_
              refine gl_op (op_rd rfl (rd_move rfl) ?_)
              refine gl_op (op_rd rfl (rd_move rfl) ?_)
              refine gl_op (op_rd rfl (rd_lenSlice Try.underlying23 rfl) ?_)
              refine gl_op (op_rd rfl (rd_lss rfl rfl) (gk_dec (fun hlt2 => ?_) (fun hlt2 => ?_)))
              · skip
                have hil : i < ls.length := by omega
                have him := hl8 _ (mem_getD (d := 0) hil)
                have him8 := in_lt hgd him
                obtain ⟨ns, hre, hk, hmL, hse⟩ := settleR_ok' hck hL hok hsL him
                obtain ⟨o1, o2, o3, o4⟩ := orders hgd hs hre hk picks
                have hset := hL _ hmL
                have hset12 := st_lt hgd hset
                have hgo2 : runGo c ((ls.drop (i + 1)).map fun n : Nat => (n : Int)) (settledP c (ls.getD i 0) ns) (res.take i ++ [outB c (settledP c (ls.getD i 0) ns) (ls.getD i 0)]) = (res, 0) := by
                  rw [← hgo, List.drop_eq_getElem_cons hil, List.map_cons, runGo, show ls[i] = ls.getD i 0 by simp [hil], hse]
                  simp
                obtain ⟨e, hpre⟩ := runGo_pre _ _ _ _ hgo2
                have hresl2 : res.length = ls.length := by rw [hresl]; simp
                have hget : res.getD i 0 = outB c (settledP c (ls.getD i 0) ns) (ls.getD i 0) := by
                  have h1 : (res.take i).length = i := by rw [List.length_take]; omega
                  have h2 : res[i]? = some (outB c (settledP c (ls.getD i 0) ns) (ls.getD i 0)) := by
                    rw [hpre, List.append_assoc, List.getElem?_append_right (by omega), h1]; simp
                  simp [List.getD, h2]
                have hout : res.take (i + 1) = res.take i ++ [outB c (settledP c (ls.getD i 0) ns) (ls.getD i 0)] := by
                  rw [List.take_succ_eq_append_getElem (by omega), ← hget]; simp [show i < res.length by omega]
                refine gl_nil ?_
                refine gx_then ?_
                refine gc_cond_t rfl ?_
                refine gc_skip ?_
                refine gx_then ?_
                refine gc_seq ?_
                refine gc_block ?_
                refine gc_seq ?_
                refine gc_drawP [0, 1, 2, 3, 4, 5] true 14 rfl ?_
                refine ga_first 0 #[true, false, false, false, false, false, false, false, false, false, false, false, false, false, false] rfl rfl rfl rfl (by kernel_rfl) rfl ⟨[0, 1, 2, 3, 4, 5], by decide, rfl⟩ (qt_rd (rd_loadAgg Try.underlying25 rfl ty_25 rfl (by first | exact cs_blk 2 (off := 0) (k := 3) rfl rfl | exact cs_blk 5 (off := 0) (k := 3) rfl rfl | exact cs_old (by assumption) (by simp)) rfl)) ?_
                refine ga_first 1 #[true, true, false, false, false, false, false, false, false, false, false, false, false, false, false] rfl rfl rfl rfl (by kernel_rfl) rfl ⟨[0, 1, 2, 3, 4, 5], by decide, rfl⟩ (qt_rd (rd_move rfl)) ?_
                refine ga_first 2 #[true, true, true, false, false, false, false, false, false, false, false, false, false, false, false] rfl rfl rfl rfl (by kernel_rfl) rfl ⟨[0, 1, 2, 3, 4, 5], by decide, rfl⟩ (qt_rd (rd_move rfl)) ?_
                refine ga_first 3 #[true, true, true, true, false, false, false, false, false, false, false, false, false, false, false] rfl rfl rfl rfl (by kernel_rfl) rfl ⟨[0, 1, 2, 3, 4, 5], by decide, rfl⟩ (qt_rd (rd_move rfl)) ?_
                refine ga_first 4 #[true, true, true, true, true, false, false, false, false, false, false, false, false, false, false] rfl rfl rfl rfl (by kernel_rfl) rfl ⟨[0, 1, 2, 3, 4, 5], by decide, rfl⟩ (qt_rd (by first | exact rd_indexRow1 0 rfl Try.underlying23 ty_3 rfl rfl (by omega) (by omega) | exact rd_indexRow1 1 rfl Try.underlying23 ty_3 rfl rfl (by omega) (by omega) | exact rd_indexRow1 3 rfl Try.underlying23 ty_3 rfl rfl (by omega) (by omega) | exact rd_indexRow1 4 rfl Try.underlying23 ty_3 rfl rfl (by omega) (by omega) | exact rd_indexOld1 (by assumption) Try.underlying23 ty_3 rfl rfl (by omega) (by omega) | exact rd_index1 Try.underlying23 ty_3 rfl rfl (by omega) (by omega))) ?_
                refine ga_first 5 #[true, true, true, true, true, true, false, false, false, false, false, false, false, false, false] rfl rfl rfl rfl (by kernel_rfl) rfl ⟨[0, 1, 2, 3, 4, 5], by decide, rfl⟩ (qt_rd (rd_load Try.underlying3 rfl rfl (ld_rowN 1 rfl (get_nats hil)))) ?_
                refine ga_first 6 #[true, true, true, true, true, true, true, false, false, false, false, false, false, false, false] rfl rfl rfl rfl (by kernel_rfl) rfl ⟨[0, 1, 2, 3, 4, 5], by decide, rfl⟩ (qt_rd (rd_move rfl)) ?_
                refine ga_only 7 #[true, true, true, true, true, true, true, true, false, false, false, false, false, false, false] rfl rfl (by kernel_rfl) rfl (.inr ⟨[0, 1, 2, 3, 4, 5], by decide, rfl⟩) (op_call rfl (vf := []) (vc := []) rfl rfl Try.call15 (fun w ho => played_ok c s (ls.getD i 0) picks pa pcp 999 w (hc.at ho) hgd hck hs him (hpk.at ho) hpl hp8 (by decide)) ?_)
                rintro _ _ ⟨rt, ct, rfl, rfl⟩
                rw [show (playGo c (ls.getD i 0) picks (999 + 1) 0 s (List.replicate c.gates.length 0)).1 = _ from o1, show (playGo c (ls.getD i 0) picks (999 + 1) 0 s (List.replicate c.gates.length 0)).2.2 = _ from o2]
                refine ga_first 8 #[true, true, true, true, true, true, true, true, true, false, false, false, false, false, false] rfl rfl rfl rfl (by kernel_rfl) rfl ⟨[1, 2, 3, 4, 5, 6], by decide, rfl⟩ (qt_rd (rd_move rfl)) ?_
                refine ga_first 9 #[true, true, true, true, true, true, true, true, true, true, false, false, false, false, false] rfl rfl rfl rfl (by kernel_rfl) rfl ⟨[1, 2, 3, 4, 5, 6], by decide, rfl⟩ (qt_rd (rd_extract rfl rfl)) ?_
                refine ga_first 10 #[true, true, true, true, true, true, true, true, true, true, true, false, false, false, false] rfl rfl rfl rfl (by kernel_rfl) rfl ⟨[1, 2, 3, 4, 5, 6], by decide, rfl⟩ (qt_rd (rd_extract rfl rfl)) ?_
                refine ga_first 11 #[true, true, true, true, true, true, true, true, true, true, true, true, false, false, false] rfl rfl rfl rfl (by kernel_rfl) rfl ⟨[1, 2, 3, 4, 5, 6], by decide, rfl⟩ (qt_rd (rd_extract rfl rfl)) ?_
                refine ga_first 12 #[true, true, true, true, true, true, true, true, true, true, true, true, true, false, false] rfl rfl rfl rfl (by kernel_rfl) rfl ⟨[1, 2, 3, 4, 5, 6], by decide, rfl⟩ (qt_rd (rd_assign rfl)) ?_
                refine ga_first 13 #[true, true, true, true, true, true, true, true, true, true, true, true, true, true, false] rfl rfl rfl rfl (by kernel_rfl) rfl ⟨[1, 2, 3, 4, 5, 6], by decide, rfl⟩ (qt_rd (rd_assign rfl)) ?_
                refine ga_first 14 #[true, true, true, true, true, true, true, true, true, true, true, true, true, true, true] rfl rfl rfl rfl (by kernel_rfl) rfl ⟨[1, 2, 3, 4, 5, 6], by decide, rfl⟩ (qt_rd (rd_assign rfl)) ?_
                refine ga_end (by kernel_rfl) (.inr ⟨[1, 2, 3, 4, 5, 6], by decide, rfl⟩) ?_
                refine gx_then ?_
                refine gc_seq ?_
                refine gc_drawP [0, 1, 2, 3, 4, 5, 6] true 11 rfl ?_
                refine ga_first 0 #[true, false, false, false, false, false, false, false, false, false, false, false] rfl rfl rfl rfl (by kernel_rfl) rfl ⟨[0, 1, 2, 3, 4, 5, 6], by decide, rfl⟩ (qt_rd (rd_loadAgg Try.underlying25 rfl ty_25 rfl (by first | exact cs_blk 3 (off := 0) (k := 3) rfl rfl | exact cs_blk 6 (off := 0) (k := 3) rfl rfl | exact cs_old (by assumption) (by simp)) rfl)) ?_
                refine ga_first 1 #[true, true, false, false, false, false, false, false, false, false, false, false] rfl rfl rfl rfl (by kernel_rfl) rfl ⟨[0, 1, 2, 3, 4, 5, 6], by decide, rfl⟩ (qt_rd (rd_move rfl)) ?_
                refine ga_first 2 #[true, true, true, false, false, false, false, false, false, false, false, false] rfl rfl rfl rfl (by kernel_rfl) rfl ⟨[0, 1, 2, 3, 4, 5, 6], by decide, rfl⟩ (qt_rd (rd_move rfl)) ?_
                refine ga_first 3 #[true, true, true, true, false, false, false, false, false, false, false, false] rfl rfl rfl rfl (by kernel_rfl) rfl ⟨[0, 1, 2, 3, 4, 5, 6], by decide, rfl⟩ (qt_rd (rd_move rfl)) ?_
                refine ga_first 4 #[true, true, true, true, true, false, false, false, false, false, false, false] rfl rfl rfl rfl (by kernel_rfl) rfl ⟨[0, 1, 2, 3, 4, 5, 6], by decide, rfl⟩ (qt_rd (by first | exact rd_indexRow1 0 rfl Try.underlying23 ty_3 rfl rfl (by omega) (by omega) | exact rd_indexRow1 1 rfl Try.underlying23 ty_3 rfl rfl (by omega) (by omega) | exact rd_indexRow1 2 rfl Try.underlying23 ty_3 rfl rfl (by omega) (by omega) | exact rd_indexRow1 4 rfl Try.underlying23 ty_3 rfl rfl (by omega) (by omega) | exact rd_indexRow1 5 rfl Try.underlying23 ty_3 rfl rfl (by omega) (by omega) | exact rd_indexOld1 (by assumption) Try.underlying23 ty_3 rfl rfl (by omega) (by omega) | exact rd_index1 Try.underlying23 ty_3 rfl rfl (by omega) (by omega))) ?_
                refine ga_first 5 #[true, true, true, true, true, true, false, false, false, false, false, false] rfl rfl rfl rfl (by kernel_rfl) rfl ⟨[0, 1, 2, 3, 4, 5, 6], by decide, rfl⟩ (qt_rd (rd_load Try.underlying3 rfl rfl (ld_rowN 2 rfl (get_nats hil)))) ?_
                refine ga_first 6 #[true, true, true, true, true, true, true, false, false, false, false, false] rfl rfl rfl rfl (by kernel_rfl) rfl ⟨[0, 1, 2, 3, 4, 5, 6], by decide, rfl⟩ (qt_call (vf := []) (vc := []) rfl rfl Try.call22 (fun w ho => rOutputsN_ok c _ _ w (hc.at ho) hset12 him8 (ready_nat hck hset him)) (by rintro _ _ ⟨h, _⟩; exact h)) ?_
                refine ga_first 7 #[true, true, true, true, true, true, true, true, false, false, false, false] rfl rfl rfl rfl (by kernel_rfl) rfl ⟨[0, 1, 2, 3, 4, 5, 6], by decide, rfl⟩ (qt_rd (rd_move rfl)) ?_
                refine ga_first 8 #[true, true, true, true, true, true, true, true, true, false, false, false] rfl rfl rfl rfl (by kernel_rfl) rfl ⟨[0, 1, 2, 3, 4, 5, 6], by decide, rfl⟩ (qt_rd (rd_extract rfl rfl)) ?_
                refine ga_first 9 #[true, true, true, true, true, true, true, true, true, true, false, false] rfl rfl rfl rfl (by kernel_rfl) rfl ⟨[0, 1, 2, 3, 4, 5, 6], by decide, rfl⟩ (qt_rd (rd_extract rfl rfl)) ?_
                refine ga_first 10 #[true, true, true, true, true, true, true, true, true, true, true, false] rfl rfl rfl rfl (by kernel_rfl) rfl ⟨[0, 1, 2, 3, 4, 5, 6], by decide, rfl⟩ (qt_rd (rd_assign rfl)) ?_
                refine ga_first 11 #[true, true, true, true, true, true, true, true, true, true, true, true] rfl rfl rfl rfl (by kernel_rfl) rfl ⟨[0, 1, 2, 3, 4, 5, 6], by decide, rfl⟩ (qt_rd (rd_assign rfl)) ?_
                refine ga_end (by kernel_rfl) (.inr ⟨[0, 1, 2, 3, 4, 5, 6], by decide, rfl⟩) ?_
                refine gx_then ?_
                refine gc_seq ?_
                refine gc_seq ?_
                refine gc_region ?_
                refine gl_op (op_rd rfl (rd_move rfl) ?_)
                refine gl_op (op_rd rfl (rd_not rfl) ?_)
                refine gl_op (op_rd rfl (rd_move rfl) ?_)
                refine gl_yes rfl rfl (op_rd rfl (rd_move rfl) ?_)
                refine gl_yes rfl rfl (op_rd rfl (rd_move rfl) ?_)
                refine gl_yes rfl rfl (op_rd rfl (rd_move rfl) ?_)
                refine gl_yes rfl rfl (op_rd rfl (by first | exact rd_indexRow1 0 rfl Try.underlying23 ty_3 rfl rfl (by omega) (by omega) | exact rd_indexRow1 1 rfl Try.underlying23 ty_3 rfl rfl (by omega) (by omega) | exact rd_indexRow1 2 rfl Try.underlying23 ty_3 rfl rfl (by omega) (by omega) | exact rd_indexRow1 4 rfl Try.underlying23 ty_3 rfl rfl (by omega) (by omega) | exact rd_indexRow1 5 rfl Try.underlying23 ty_3 rfl rfl (by omega) (by omega) | exact rd_indexOld1 (by assumption) Try.underlying23 ty_3 rfl rfl (by omega) (by omega) | exact rd_index1 Try.underlying23 ty_3 rfl rfl (by omega) (by omega)) ?_)
                refine gl_yes rfl rfl (op_rd rfl (rd_load Try.underlying3 rfl rfl (ld_rowN 1 rfl (get_nats (by omega)))) ?_)
                refine gl_yes rfl rfl (op_rd rfl (rd_neq rfl rfl) (gk_dec (fun h111 => ?_) (fun h111 => ?_)))
                · skip
                  exact absurd (by rw [hget]) h111
                · skip
                  refine gl_op (op_rd rfl (rd_pick_f rfl rfl) ?_)
                  refine gl_nil ?_
                  refine gx_then ?_
                  refine gc_cond_f rfl ?_
                  refine gc_skip ?_
                  refine gx_then ?_
                  refine gc_region ?_
                  refine gl_op (op_rd rfl (rd_move rfl) ?_)
                  refine gl_op (op_rd rfl (rd_assign rfl) ?_)
                  refine gl_nil ?_
                  refine gx_block ?_
                  refine gx_then ?_
                  refine gc_region ?_
                  refine gl_op (op_rd rfl (rd_move rfl) ?_)
                  refine gl_op (op_rd rfl (by first | exact rd_addN (b := 1) rfl rfl (by omega) | exact rd_add rfl rfl (by omega) (by omega)) ?_)
                  refine gl_op (op_rd rfl (rd_assign rfl) ?_)
                  refine gl_nil ?_
                  refine gx_then ?_
                  exact gx_cut ((i + 1, settledP c (ls.getD i 0) ns)) ⟨⟨by simp only; omega, hmL, by simp only; rw [hout]; exact hgo2⟩, by simp only; omega⟩ ⟨rfl, rfl, rfl, rfl, rfl, rfl, trivial⟩ ⟨[1, 2, 3, 4, 5, 6], by decide, rfl⟩
              · skip
                refine gl_nil ?_
                refine gx_then ?_
                refine gc_cond_f rfl ?_
                refine gc_exit ?_
                refine gx_then_exit ?_
                refine gx_then_exit ?_
                refine gx_block_exit ?_
                refine gx_then ?_
                refine gc_seq ?_
                refine gc_region ?_
                refine gl_op (op_call rfl (vf := []) (vc := []) rfl rfl Try.call12 (fun w ho => awake_ok w (fun c im h hg => facts c im h hg)) ?_)
                rintro _ _ ⟨rfl, rfl⟩
                refine gl_op (op_rd rfl (rd_assign rfl) ?_)
                refine gl_nil ?_
                refine gx_then ?_
                refine gc_ret ?_
                refine gx_ret1 (.inl rfl) Try.results9 rfl [] (by decide) ?_
                exact ⟨rfl, rfl⟩
    · skip
      refine gl_yes rfl rfl (op_rd rfl (rd_not rfl) ?_)
      refine gl_op (op_rd rfl (rd_pick_f rfl rfl) ?_)
      refine gl_op (op_rd rfl (rd_move rfl) ?_)
      refine gl_no rfl rfl rfl ?_
      refine gl_no rfl rfl rfl ?_
      refine gl_no rfl rfl rfl ?_
      refine gl_op (op_rd rfl (rd_pick_t rfl rfl) ?_)
      refine gl_nil ?_
      refine gx_then ?_
      refine gc_cond_t rfl ?_
      refine gc_seq ?_
      refine gc_region ?_
      refine gl_op (op_call rfl (vf := []) (vc := []) rfl rfl Try.call12 (fun w ho => awake_ok w (fun c im h hg => facts c im h hg)) ?_)
      rintro _ _ ⟨rfl, rfl⟩
      refine gl_op (op_rd rfl (rd_assign rfl) ?_)
      refine gl_nil ?_
      refine gx_then ?_
      refine gc_ret ?_
      refine gx_then_ret ?_
      refine gx_ret1 (.inl rfl) Try.results9 rfl [] (by decide) ?_
      exact ⟨rfl, rfl⟩

end Go.Proofs.Yteocjpnckciboaa

set_option autoImplicit false
set_option linter.unusedVariables false
namespace Go.Proofs.Yteocjpnckciboaa
open Go.Gv
open Go.RowKit Go.Deep Go.ChangeShapes Go.WideShapes
namespace Ry
def loopC (b1 b2 : Nat) : Circ := ⟨0, pa b2, 1, [⟨3, pa b1, 1, [0]⟩], none, 0, []⟩
def holdC (b1 b2 b3 : Nat) : Circ := ⟨2, pa b2, 1, [⟨7, pa b1, 2, [0, 1]⟩], pa b3, 1, [2]⟩
theorem latch_n0 (b1 b3 b5 b6 : Nat) : (latch b1 b3 b5 b6).ready 0 0 = 0 ∧ nextL (latch b1 b3 b5 b6) 0 0 = [0, 1] := ⟨by kernel_rfl, by kernel_rfl⟩
theorem latch_n3 (b1 b3 b5 b6 : Nat) : (latch b1 b3 b5 b6).ready 0 3 = 0 ∧ nextL (latch b1 b3 b5 b6) 0 3 = [] := ⟨by kernel_rfl, by kernel_rfl⟩
theorem latch_s1 (b1 b3 b5 b6 : Nat) : settleR (latch b1 b3 b5 b6) 0 1 = (1, 0) := by kernel_rfl
theorem latch_acc (b1 b3 b5 b6 : Nat) : acceptR (latch b1 b3 b5 b6) 1 = ⟨false, 0, 0, ⟨1, [0], [1]⟩, 0⟩ := by kernel_rfl
theorem loop_race (b1 b2 : Nat) : raceR (loopC b1 b2) 0 0 = (⟨2, [], [0, 0]⟩, 0) := by kernel_rfl
theorem chooser_s (b1 b3 b5 b7 b9 b10 : Nat) : settleR (chooser b1 b3 b5 b7 b9 b10) 12 6 = (11, 0) := by kernel_rfl
theorem hold_s (b1 b2 b3 : Nat) : settleR (holdC b1 b2 b3) 0 1 = (1, 0) ∧ settleR (holdC b1 b2 b3) 1 0 = (1, 0) ∧ settleR (holdC b1 b2 b3) 1 2 = (0, 0) ∧ settleR (holdC b1 b2 b3) 0 3 = (1, 0) := ⟨by kernel_rfl, by kernel_rfl, by kernel_rfl, by kernel_rfl⟩
theorem hold_acc (b1 b2 b3 : Nat) : acceptR (holdC b1 b2 b3) 0 = ⟨true, 0, 0, ⟨0, [], []⟩, 0⟩ := by kernel_rfl
section
variable {H : Type} {enc : TypeId × Value → H} {W : World} {base : Nat} {sp : Nat → Bool} {held : Bool}
theorem openIntsB {n : Nat} {cs : List Value} {x : DataW H × List MemPlace} (h : DataW.trod enc Try.prog W base sp held n 23 cs = some x) (hw : ∀ b ∈ x.1.weights Try.prog 23, b ≤ reachBytes) :
    ∃ (a : Option Addr) (zs : List Int) (cp : Nat), cs = [.slice a zs.length cp] ∧ OldSl W [] a zs.length 1 (zs.map intV) ∧ zs.length ≤ 140737488355328 ∧ ∀ z ∈ zs, z ≤ 9223372036854775807 := by
  rcases open_slice1 Try.underlying23 (by kernel_rfl) h with ⟨rfl, rfl⟩ | ⟨a, len, cap, m, k, V, D, Pl, rfl, hb, hl, hm, hmm, rfl, hx⟩
  · exact ⟨none, [], 0, rfl, ⟨rfl, fun h => absurd h (by decide), fun j v hv => by simp at hv, fun h => absurd h (by decide)⟩, by decide, by simp⟩
  · have hml : len ≤ m := by rw [hmm]; split <;> omega
    have hone : ∀ i, i < len → ∃ z : Int, W.cell? (a.add i) = some (.int .i64 z) ∧ z ≤ 9223372036854775807 := fun i hi => by
      obtain ⟨h1, h2⟩ := hx i (by omega)
      obtain ⟨z, e, _, hwf⟩ := DataW.trod_int Try.underlying3 h2
      simp at e
      exact ⟨z, by rw [h1, e], (bounds_i64 hwf).2⟩
    obtain ⟨g, hg⟩ := choose_lt (α := Int) (p := fun i z => W.cell? (a.add i) = some (.int .i64 z) ∧ z ≤ 9223372036854775807) hone
    refine ⟨some a, (List.range len).map g, cap, by simp, ⟨by simp, fun _ => rfl, fun j v hv => ?_, fun _ => by simp⟩, ?_, ?_⟩
    · have hj : j < len := by
        have := (List.getElem?_eq_some_iff.1 hv).1
        simpa using this
      simp [hj] at hv
      rw [← hv]; exact (hg j hj).1
    · have := hw _ (by rw [DataW.weights]; simp only [Try.underlying23]; exact List.mem_cons_self)
      simp only [List.length_map, List.length_range] at this ⊢
      have h8 : Try.prog.bytesOf 3 = 8 := by kernel_rfl
      rw [h8] at this
      have := reachBytes_lt
      omega
    · intro q hq
      obtain ⟨i, hi, rfl⟩ := List.mem_map.1 hq
      exact (hg i (List.mem_range.1 hi)).2
end
end Ry
end Go.Proofs.Yteocjpnckciboaa
