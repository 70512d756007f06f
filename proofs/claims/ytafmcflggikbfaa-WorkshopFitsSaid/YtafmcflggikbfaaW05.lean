import Derived.Test.YtafmcflggikbfaaW04
import Derived.Test.YtafmcflggikbfaaW00
/- A part of the proof: walks of the program. -/
set_option autoImplicit false
set_option linter.unusedSimpArgs false
set_option linter.unusedVariables false
set_option linter.unnecessarySimpa false
namespace Go.Wk
open Go.Gv
open Go.Sn
/-! # The example of the document, computed -/
def exJ (b : Nat) : List JI := [⟨⟨#[99, 97, 115, 116]⟩, 0, 4, none, 0, []⟩, ⟨⟨#[112, 108, 97, 110, 101]⟩, 1, 3, some ⟨b, 0, none⟩, 1, [(0, 20)]⟩, ⟨⟨#[99, 97, 115, 101]⟩, 1, 10, none, 0, []⟩]
def exN (b : Nat) : List Jb := [⟨⟨#[99, 97, 115, 116]⟩, 0, 4, none, 0, []⟩, ⟨⟨#[112, 108, 97, 110, 101]⟩, 1, 3, some ⟨b, 0, none⟩, 1, [(0, 20)]⟩, ⟨⟨#[99, 97, 115, 101]⟩, 1, 10, none, 0, []⟩]
theorem ex_nOf (b : Nat) : nOf (exJ b) = exN b := by kernel_rfl
theorem ex_check (b : Nat) : checkE (exJ b) = 0 := by kernel_rfl
theorem ex_earl (b : Nat) : earlC (exN b) = [0, 24, 0] := by kernel_rfl
theorem ex_end (b : Nat) : endC (exN b) = 27 := by kernel_rfl
theorem ex_crit (b : Nat) : critC (exN b) = [0, 1] := by kernel_rfl
theorem ex_plan (b : Nat) : planO [1, 1] (exN b) = some [0, 24, 0] := by kernel_rfl
theorem ex_pend (b : Nat) : endF (exN b) [0, 24, 0] = 27 := by kernel_rfl
theorem ex_wrong (b : Nat) : wrongP [1, 1] (exN b) [0, 24, 15] = 1 := by kernel_rfl
theorem ex_bad (b : Nat) : badAts (exN b) [0, 24, 15] = false := by kernel_rfl
end Go.Wk
namespace Go.Proofs.Ytafmcflggikbfaa
open Go.Gv
open Go.RowKit
open Go.Sn
open Go.Wk
open Sx
namespace Sx
theorem ex_le (b : Nat) : JsLe (exJ b) := by
  refine ⟨by show 3 ≤ _; decide, fun x hx => ?_, fun x hx => ?_⟩
  · simp only [exJ, List.mem_cons, List.not_mem_nil, or_false] at hx
    rcases hx with rfl | rfl | rfl <;> first | decide | (show (1 : Nat) ≤ _; decide) | (show (5 : Nat) ≤ _; decide)
  · simp only [exJ, List.mem_cons, List.not_mem_nil, or_false] at hx
    rcases hx with rfl | rfl | rfl <;> first | decide | (show (1 : Nat) ≤ _; decide) | (show (5 : Nat) ≤ _; decide)
theorem ex_in {w : World} {b6 b : Nat} (h6 : OldSl w [] (rowA (some b6)) 3 4 ((exJ b).flatMap JI.cells)) (h3 : OldSl w [] (rowA (some b)) 1 2 ([((0 : Int), (20 : Int))].flatMap lagC)) : JsIn (rowA (some b6)) (exJ b) w [] := by
  refine ⟨h6, fun x hx => ?_⟩
  simp only [exJ, List.mem_cons, List.not_mem_nil, or_false] at hx
  rcases hx with rfl | rfl | rfl
  · exact oldNil w [] 2
  · exact h3
  · exact oldNil w [] 2
theorem ex_EarlR {t : TypeId} {b : Nat} {v : Value} {L : List HL} (h : EarlR t (exJ b) v L) : ∃ b9, v = .tuple #[.slice (rowA (some b9)) 3 3, .int .i64 0] ∧ L = [.row t 1 (some b9) 3 3 (([0, 24, 0] : List Int).map intV)] := by
  rcases h with ⟨h, _⟩ | ⟨_, b9, hv, hL⟩
  · exact absurd (ex_check b) h
  · rw [ex_nOf] at hv hL
    rw [ex_earl] at hL
    exact ⟨b9, hv, hL⟩
theorem ex_CritR {t : TypeId} {b : Nat} {v : Value} {L : List HL} (h : CritR t (exJ b) v L) : ∃ r c, v = .tuple #[.slice (rowA r) 2 c, .int .i64 27, .int .i64 0] ∧ L = [.row t 1 r 2 c (([0, 1] : List Int).map intV)] := by
  rcases h with ⟨h, _⟩ | ⟨_, r, c, hv, hL⟩
  · exact absurd (ex_check b) h
  · rw [ex_nOf, ex_crit] at hv hL
    rw [ex_end] at hv
    exact ⟨r, c, hv, hL⟩
theorem ex_fits (b : Nat) : fitsV [1, 1] (exJ b) [0, 24, 15] = .tuple #[.bool false, .int .i64 1, .int .i64 0] := by
  unfold fitsV
  rw [if_neg (by rw [ex_check]; decide), ex_nOf, if_neg (by rw [ex_bad]; decide), ex_wrong]
  rfl
theorem ex_planE (b : Nat) : planE [1, 1] (exJ b) = 0 := planE_0 (ex_check b) (by show 3 ≤ 7; decide) (by decide) (by rw [ex_nOf]; rfl)
theorem ex_PlanR {t : TypeId} {b : Nat} {v : Value} {L : List HL} (h : PlanR t [1, 1] (exJ b) v L) : ∃ r c, v = .tuple #[.slice (rowA r) 3 c, .int .i64 27, .int .i64 0] ∧ L = [.row t 1 r 3 c (([0, 24, 0] : List Int).map intV)] := by
  rcases h with ⟨h, _⟩ | ⟨_, g, r, c, hg, hv, hL⟩
  · exact absurd (ex_planE b) h
  · rw [ex_nOf] at hg hv
    rw [ex_plan] at hg
    have := (Option.some.inj hg).symm
    subst this
    rw [ex_pend] at hv
    exact ⟨r, c, hv, hL⟩
theorem ex_planE1 (b : Nat) : planE [1] (exJ b) = 4 := planE_4 (ex_check b) (by show 3 ≤ 7; decide) (by decide) (by rw [ex_nOf]; rfl)
theorem ex_PlanR1 {t : TypeId} {b : Nat} {v : Value} {L : List HL} (h : PlanR t [1] (exJ b) v L) : v = .tuple #[.slice none 0 0, .int .i64 0, .int .i64 4] ∧ L = [] := by
  rcases h with ⟨_, hv, hL⟩ | ⟨h, _⟩
  · rw [ex_planE1] at hv
    exact ⟨hv, hL⟩
  · rw [ex_planE1] at h; cases h
end Sx
open Sx
set_option maxRecDepth 100000 in
set_option maxHeartbeats 1000000 in
theorem example_ok (w0 : World) : Sp Try.prog 25 [] w0 [] (fun v L => ∃ b6 b3, v = .slice (rowA (some b6)) 3 3 ∧ L = [.row 48 4 (some b6) 3 3 ((exJ b3).flatMap JI.cells), .row 50 2 (some b3) 1 1 ([((0 : Int), (20 : Int))].flatMap lagC)]) := by
  refine spec_enter Try.func25 rfl Try.ntmps25 rfl (Own.refl _) ?_
  simp only [argEnv]
  refine gc_seq <| gc_region <| gl_op <| op_rd rfl (rd_assign rfl) <| gl_nil <| gx_then <| gc_seq <| gc_region <| gl_op (op_rd rfl (rd_build rfl (fun _ => bd_48_0_1_2 _ _ _)) ?_)
  refine gl_op (op_rd rfl (rd_build rfl (fun _ => bd_50_0_1 _ _)) ?_)
  refine gl_op (op_buildSlice (sz := 2) rfl rfl (fun _ => bs_46_1_0 _ _) rfl rfl (fun b3 => ?_))
  refine gl_op (op_rd rfl (rd_build rfl (fun _ => bd_48_0_1_2_3 _ _ _ _ _ _)) ?_)
  refine gl_op (op_rd rfl (rd_build rfl (fun _ => bd_48_0_1_2 _ _ _)) ?_)
  refine gl_op (op_buildSlice (sz := 4) rfl rfl (fun _ => bs_22_3_0_1_2 _ _ _ _ _ _ _ _ _ _ _ _ _ _ _ _ _ _) rfl rfl (fun b6 => ?_))
  refine gl_op <| op_rd rfl (rd_assign rfl) <| gl_nil <| gx_then <| gc_ret <| gx_ret1 (.inl rfl) Try.results25 rfl [0, 1] (by decide) ?_
  exact ⟨b6, b3, rfl, rfl⟩
set_option maxRecDepth 100000 in
set_option maxHeartbeats 1000000 in
theorem shown_ok (w0 : World) : Sp Try.prog 9 [] w0 [] (RV (.bool true)) := by
  refine spec_enter Try.func9 rfl Try.ntmps9 rfl (Own.refl _) ?_
  simp only [argEnv]
  refine gc_seq <| gc_region <| gl_op <| op_rd rfl (rd_assign rfl) <| gl_nil <| gx_then <| gc_seq <| gc_region <| gl_op (op_call rfl (vf := []) (vc := []) rfl rfl Try.call25 (fun w1 ho => example_ok w1) ?_)
  rintro _ _ ⟨b6, b3, rfl, rfl⟩
  refine gl_op <| op_rd rfl (rd_assign rfl) <| gl_nil <| gx_then <| gc_seq <| gc_region <| gl_op <| op_rd rfl (rd_move rfl) <| gl_op (op_call rfl (vf := []) (vc := []) rfl rfl Try.call10 (fun w1 ho => (Earliest_ok (rowA (some b6)) 3 (exJ b3) (ex_le b3)  w1 (ex_in (ho.rowSl 0 rfl) (ho.rowSl 1 rfl))).mono fun v L h => ex_EarlR h) ?_)
  rintro _ _ ⟨b19, rfl, rfl⟩
  refine gl_op <| op_rd rfl (rd_move rfl) <| gl_op <| op_rd rfl (rd_extract rfl rfl) <| gl_op <| op_rd rfl (rd_extract rfl rfl) <| gl_op <| op_rd rfl (rd_assign rfl) <| gl_op <| op_rd rfl (rd_assign rfl) <| gl_nil <| gx_then <| gc_seq <| gc_region <| gl_op <| op_rd rfl (rd_move rfl) <| gl_op (op_call rfl (vf := []) (vc := []) rfl rfl Try.call12 (fun w1 ho => (Critical_ok (rowA (some b6)) 3 (exJ b3) (ex_le b3)  w1 (ex_in (ho.rowSl 1 rfl) (ho.rowSl 2 rfl))).mono fun v L h => ex_CritR h) ?_)
  rintro _ _ ⟨r24, c24, rfl, rfl⟩
  refine gl_op <| op_rd rfl (rd_move rfl) <| gl_op <| op_rd rfl (rd_extract rfl rfl) <| gl_op <| op_rd rfl (rd_extract rfl rfl) <| gl_op <| op_rd rfl (rd_extract rfl rfl) <| gl_op <| op_rd rfl (rd_assign rfl) <| gl_op <| op_rd rfl (rd_assign rfl) <| gl_op <| op_rd rfl (rd_assign rfl) <| gl_nil <| gx_then <| gc_seq <| gc_region <| gl_op (op_buildSlice (sz := 1) rfl rfl (fun _ => bs_29_2_0_1 _ _) rfl rfl (fun b29 => ?_))
  refine gl_op <| op_rd rfl (rd_move rfl) <| gl_op (op_buildSlice (sz := 1) rfl rfl (fun _ => bs_25_3_0_1_2 _ _ _) rfl rfl (fun b31 => ?_))
  refine gl_op (op_call rfl (vf := []) (vc := []) rfl rfl Try.call18 (fun w1 ho => by
    have h9 := Fits_ok (rowA (some b6)) 3 (exJ b3) (ex_le b3) (rowA (some b29)) 2 [1, 1] (by decide) (rowA (some b31)) 3 [0, 24, 15] (by decide) w1 (ex_in (ho.rowSl 4 rfl) (ho.rowSl 5 rfl)) (ho.rowSl 1 rfl) (ho.rowSl 0 rfl)
    rw [ex_fits] at h9
    exact h9) ?_)
  rintro _ _ ⟨rfl, rfl⟩
  refine gl_op <| op_rd rfl (rd_move rfl) <| gl_op <| op_rd rfl (rd_extract rfl rfl) <| gl_op <| op_rd rfl (rd_extract rfl rfl) <| gl_op <| op_rd rfl (rd_extract rfl rfl) <| gl_op <| op_rd rfl (rd_assign rfl) <| gl_op <| op_rd rfl (rd_assign rfl) <| gl_op <| op_rd rfl (rd_assign rfl) <| gl_nil <| gx_then <| gc_seq <| gc_region <| gl_op (op_buildSlice (sz := 1) rfl rfl (fun _ => bs_29_2_0_1 _ _) rfl rfl (fun b37 => ?_))
  refine gl_op <| op_rd rfl (rd_move rfl) <| gl_op (op_call rfl (vf := []) (vc := []) rfl rfl Try.call20 (fun w1 ho => (Plan_ok (rowA (some b6)) 3 (exJ b3) (ex_le b3) (rowA (some b37)) 2 [1, 1] (by decide) w1 (ex_in (ho.rowSl 5 rfl) (ho.rowSl 6 rfl)) (ho.rowSl 0 rfl)).mono fun v L h => ex_PlanR h) ?_)
  rintro _ _ ⟨r39, c39, rfl, rfl⟩
  refine gl_op <| op_rd rfl (rd_move rfl) <| gl_op <| op_rd rfl (rd_extract rfl rfl) <| gl_op <| op_rd rfl (rd_extract rfl rfl) <| gl_op <| op_rd rfl (rd_extract rfl rfl) <| gl_op <| op_rd rfl (rd_assign rfl) <| gl_op <| op_rd rfl (rd_assign rfl) <| gl_op <| op_rd rfl (rd_assign rfl) <| gl_nil <| gx_then <| gc_seq <| gc_region <| gl_op (op_buildSlice (sz := 1) rfl rfl (fun _ => bs_29_1_0 _) rfl rfl (fun b44 => ?_))
  refine gl_op <| op_rd rfl (rd_move rfl) <| gl_op (op_call rfl (vf := []) (vc := []) rfl rfl Try.call20 (fun w1 ho => (Plan_ok (rowA (some b6)) 3 (exJ b3) (ex_le b3) (rowA (some b44)) 1 [1] (by decide) w1 (ex_in (ho.rowSl 7 rfl) (ho.rowSl 8 rfl)) (ho.rowSl 0 rfl)).mono fun v L h => ex_PlanR1 h) ?_)
  rintro _ _ ⟨rfl, rfl⟩
  refine gl_op <| op_rd rfl (rd_move rfl) <| gl_op <| op_rd rfl (rd_extract rfl rfl) <| gl_op <| op_rd rfl (rd_extract rfl rfl) <| gl_op <| op_rd rfl (rd_extract rfl rfl) <| gl_op <| op_rd rfl (rd_assign rfl) <| gl_op <| op_rd rfl (rd_assign rfl) <| gl_op <| op_rd rfl (rd_assign rfl) <| gl_nil <| gx_then <| gc_seq <| gc_seq <| gc_region <| gl_op <| op_rd rfl (rd_move rfl) <| gl_op (op_rd rfl (rd_neq rfl rfl) (gk_dec (fun hd1 => ?_) (fun hd1 => ?_)))
  · exfalso; omega
  refine gl_op <| op_rd rfl (rd_move rfl) <| gl_yes rfl rfl <| op_rd rfl (rd_move rfl) <| gl_yes rfl rfl (op_rd rfl (rd_neq rfl rfl) (gk_dec (fun hd2 => ?_) (fun hd2 => ?_)))
  · exfalso; omega
  refine gl_op <| op_rd rfl (rd_pick_f rfl rfl) <| gl_op <| op_rd rfl (rd_move rfl) <| gl_yes rfl rfl <| op_rd rfl (rd_move rfl) <| gl_yes rfl rfl (op_rd rfl (rd_neq rfl rfl) (gk_dec (fun hd3 => ?_) (fun hd3 => ?_)))
  · exfalso; omega
  refine gl_op <| op_rd rfl (rd_pick_f rfl rfl) <| gl_op <| op_rd rfl (rd_move rfl) <| gl_yes rfl rfl <| op_rd rfl (rd_move rfl) <| gl_yes rfl rfl (op_rd rfl (rd_neq rfl rfl) (gk_dec (fun hd4 => ?_) (fun hd4 => ?_)))
  · exfalso; omega
  refine gl_op <| op_rd rfl (rd_pick_f rfl rfl) <| gl_op <| op_rd rfl (rd_move rfl) <| gl_yes rfl rfl <| op_rd rfl (rd_move rfl) <| gl_yes rfl rfl (op_rd rfl (rd_neq rfl rfl) (gk_dec (fun hd5 => ?_) (fun hd5 => ?_)))
  · exfalso; omega
  refine gl_op <| op_rd rfl (rd_pick_f rfl rfl) <| gl_op <| op_rd rfl (rd_move rfl) <| gl_yes rfl rfl <| op_rd rfl (rd_move rfl) <| gl_op <| op_rd rfl (rd_pick_f rfl rfl) <| gl_op <| op_rd rfl (rd_move rfl) <| gl_yes rfl rfl <| op_rd rfl (rd_move rfl) <| gl_yes rfl rfl (op_rd rfl (rd_neq rfl rfl) (gk_dec (fun hd6 => ?_) (fun hd6 => ?_)))
  · exfalso; omega
  refine gl_op <| op_rd rfl (rd_pick_f rfl rfl) <| gl_op <| op_rd rfl (rd_move rfl) <| gl_yes rfl rfl <| op_rd rfl (rd_move rfl) <| gl_yes rfl rfl (op_rd rfl (rd_neq rfl rfl) (gk_dec (fun hd7 => ?_) (fun hd7 => ?_)))
  · exfalso; omega
  refine gl_op <| op_rd rfl (rd_pick_f rfl rfl) <| gl_op <| op_rd rfl (rd_move rfl) <| gl_yes rfl rfl <| op_rd rfl (rd_move rfl) <| gl_yes rfl rfl (op_rd rfl (rd_neq rfl rfl) (gk_dec (fun hd8 => ?_) (fun hd8 => ?_)))
  · exfalso; omega
  refine gl_op <| op_rd rfl (rd_pick_f rfl rfl) <| gl_nil <| gx_then <| gc_cond_f rfl <| gc_skip <| gx_then <| gc_seq <| gc_region <| gl_op <| op_rd rfl (rd_move rfl) <| gl_op (op_buildSlice (sz := 1) rfl rfl (fun _ => bs_25_3_0_1_2 _ _ _) rfl rfl (fun b84 => ?_))
  refine gl_op (op_call rfl (vf := []) (vc := []) rfl rfl Try.call16 (fun w1 ho => SameHours_ok (rowA (some b19)) 3 (rowA (some b84)) 3 [0, 24, 0] (by decide) w1 (ho.rowSl 7 rfl) (ho.rowSl 0 rfl)) ?_)
  rintro _ _ ⟨rfl, rfl⟩
  refine gl_op <| op_rd rfl (rd_move rfl) <| gl_yes rfl rfl <| op_rd rfl (rd_move rfl) <| gl_yes rfl rfl (op_buildSlice (sz := 1) rfl rfl (fun _ => bs_29_2_0_1 _ _) rfl rfl (fun b88 => ?_))
  refine gl_yes rfl rfl (op_call rfl (vf := []) (vc := []) rfl rfl Try.call17 (fun w1 ho => SameInts_ok (rowA r24) c24 (rowA (some b88)) 2 [0, 1] (by decide) w1 (ho.rowSl 7 rfl) (ho.rowSl 0 rfl)) ?_)
  rintro _ _ ⟨rfl, rfl⟩
  refine gl_op <| op_rd rfl (rd_pick_t rfl rfl) <| gl_op <| op_rd rfl (rd_move rfl) <| gl_yes rfl rfl <| op_rd rfl (rd_move rfl) <| gl_yes rfl rfl (op_buildSlice (sz := 1) rfl rfl (fun _ => bs_25_3_0_1_2 _ _ _) rfl rfl (fun b93 => ?_))
  refine gl_yes rfl rfl (op_call rfl (vf := []) (vc := []) rfl rfl Try.call16 (fun w1 ho => SameHours_ok (rowA r39) c39 (rowA (some b93)) 3 [0, 24, 0] (by decide) w1 (ho.rowSl 4 rfl) (ho.rowSl 0 rfl)) ?_)
  rintro _ _ ⟨rfl, rfl⟩
  refine gl_op <| op_rd rfl (rd_pick_t rfl rfl) <| gl_op <| op_rd rfl (rd_assign rfl) <| gl_nil <| gx_then <| gc_ret <| gx_ret1 (.inl rfl) Try.results9 rfl [] (by decide) ?_
  exact ⟨rfl, rfl⟩
end Go.Proofs.Ytafmcflggikbfaa
namespace Go.Proofs.Ytafmcflggikbfaa
open Go.Gv
open Go.RowKit
open Go.Sn
open Go.Wk
open Sx
namespace Sx
def earlS (l : List JI) : List Int := if checkE l = 0 then castL (earlC (nOf l)) else []
def critS (l : List JI) : List Int := if checkE l = 0 then castL (critC (nOf l)) else []
def endS (l : List JI) : Int := if checkE l = 0 then (endC (nOf l) : Int) else 0
def planG (shop : List Int) (l : List JI) : List Nat := (planO shop (nOf l)).getD []
def planS (shop : List Int) (l : List JI) : List Int := if planE shop l = 0 then castL (planG shop l) else []
def planT (shop : List Int) (l : List JI) : Int := if planE shop l = 0 then (endF (nOf l) (planG shop l) : Int) else 0
def EarlS (t : TypeId) (l : List JI) (v : Value) (L : List HL) : Prop := ∃ r c, v = .tuple #[.slice (rowA r) (earlS l).length c, .int .i64 (checkE l)] ∧ L = [.row t 1 r (earlS l).length c ((earlS l).map intV)]
def CritS (t : TypeId) (l : List JI) (v : Value) (L : List HL) : Prop := ∃ r c, v = .tuple #[.slice (rowA r) (critS l).length c, .int .i64 (endS l), .int .i64 (checkE l)] ∧ L = [.row t 1 r (critS l).length c ((critS l).map intV)]
def PlanS (t : TypeId) (shop : List Int) (l : List JI) (v : Value) (L : List HL) : Prop := ∃ r c, v = .tuple #[.slice (rowA r) (planS shop l).length c, .int .i64 (planT shop l), .int .i64 (planE shop l)] ∧ L = [.row t 1 r (planS shop l).length c ((planS shop l).map intV)]
theorem cast_int (g : List Nat) : (castL g).map intV = g.map natV := by unfold castL; rw [List.map_map]; rfl
theorem EarlR.s {t : TypeId} {l : List JI} {v : Value} {L : List HL} (h : EarlR t l v L) : EarlS t l v L ∨ ∃ t' sz, EarlS t l v (.row t' sz none 0 0 [] :: L) := by
  rcases h with ⟨h, hv, hL⟩ | ⟨h, b, hv, hL⟩
  · refine .inr ⟨t, 1, none, 0, ?_, ?_⟩
    · rw [hv]; unfold earlS; rw [if_neg h]; rfl
    · rw [hL]; unfold earlS; rw [if_neg h]; rfl
  · refine .inl ⟨some b, (nOf l).length, ?_, ?_⟩
    · rw [hv]; unfold earlS; rw [if_pos h, castL_len, earlC_len, h]
    · rw [hL]; unfold earlS; rw [if_pos h, castL_len, earlC_len, cast_int]
theorem CritR.s {t : TypeId} {l : List JI} {v : Value} {L : List HL} (h : CritR t l v L) : CritS t l v L ∨ ∃ t' sz, CritS t l v (.row t' sz none 0 0 [] :: L) := by
  rcases h with ⟨h, hv, hL⟩ | ⟨h, r, c, hv, hL⟩
  · refine .inr ⟨t, 1, none, 0, ?_, ?_⟩
    · rw [hv]; unfold critS endS; rw [if_neg h, if_neg h]; rfl
    · rw [hL]; unfold critS; rw [if_neg h]; rfl
  · refine .inl ⟨r, c, ?_, ?_⟩
    · rw [hv]; unfold critS endS; rw [if_pos h, if_pos h, castL_len, h]; done
    · rw [hL]; unfold critS; rw [if_pos h, castL_len, cast_int]
theorem PlanR.s {t : TypeId} {shop : List Int} {l : List JI} {v : Value} {L : List HL} (h : PlanR t shop l v L) : PlanS t shop l v L ∨ ∃ t' sz, PlanS t shop l v (.row t' sz none 0 0 [] :: L) := by
  rcases h with ⟨h, hv, hL⟩ | ⟨h, g, r, c, hg, hv, hL⟩
  · refine .inr ⟨t, 1, none, 0, ?_, ?_⟩
    · rw [hv]; unfold planS planT; rw [if_neg h, if_neg h]; rfl
    · rw [hL]; unfold planS; rw [if_neg h]; rfl
  · refine .inl ⟨r, c, ?_, ?_⟩
    · rw [hv]; unfold planS planT planG; rw [if_pos h, if_pos h, hg, castL_len, h]; rfl
    · rw [hL]; unfold planS planG; rw [if_pos h, hg, castL_len, cast_int]; rfl
theorem fits_form (shop : List Int) (l : List JI) (ats : List Int) : ∃ a n e, fitsV shop l ats = .tuple #[.bool a, .int .i64 n, .int .i64 e] := by
  unfold fitsV
  split
  · exact ⟨_, _, _, rfl⟩
  · split
    · exact ⟨_, _, _, rfl⟩
    · exact ⟨_, _, _, rfl⟩
end Sx
open Sx
set_option maxRecDepth 100000 in
set_option maxHeartbeats 1000000 in
theorem law4_ok (a : Option Addr) (c : Nat) (l : List JI) (hle : JsLe l)  (sa : Option Addr) (sc : Nat) (shop : List Int) (hsl : shop.length ≤ 140737488355328) (q : Option Addr) (cq : Nat) (ats : List Int) (hal : ats.length ≤ 140737488355328) (w0 : World) (hJ : JsIn a l w0 []) (hS : OldSl w0 [] sa shop.length 1 (shop.map intV)) (hT : OldSl w0 [] q ats.length 1 (ats.map intV)) : Sp Try.prog 4 [.slice sa shop.length sc, .slice a l.length c, .slice q ats.length cq] w0 [] (RV (.bool true)) := by
  refine spec_enter Try.func4 rfl Try.ntmps4 rfl (Own.refl _) ?_
  simp only [argEnv]
  refine gc_seq <| gc_region <| gl_op <| op_rd rfl (rd_assign rfl) <| gl_nil <| gx_then <| gc_seq <| gc_seq <| gc_region <| gl_op <| op_rd rfl (rd_move rfl) <| gl_op (op_call rfl (vf := []) (vc := []) rfl rfl Try.call8 (fun w1 ho => far_ok a c l hle w1 (hJ.at ho)) ?_)
  rintro _ _ ⟨rfl, rfl⟩
  refine gk_bool (fun hf => ?_) (fun hf => ?_)
  · refine gl_nil <| gx_then <| gc_cond_t rfl <| gc_seq <| gc_region <| gl_op (op_call rfl (vf := []) (vc := []) rfl rfl Try.call9 (fun w1 ho => shown_ok w1) ?_)
    rintro _ _ ⟨rfl, rfl⟩
    refine gl_op <| op_rd rfl (rd_assign rfl) <| gl_nil <| gx_then <| gc_ret <| gx_then_ret <| gx_ret1 (.inl rfl) Try.results4 rfl [] (by decide) ?_
    exact ⟨rfl, rfl⟩
  refine gl_nil <| gx_then <| gc_cond_f rfl <| gc_skip <| gx_then <| gc_seq ?_
  obtain ⟨fa, fb, fe, hfv⟩ := fits_form shop l ats
  refine gc_region <| gl_op <| op_rd rfl (rd_move rfl) <| gl_op <| op_rd rfl (rd_move rfl) <| gl_op <| op_rd rfl (rd_move rfl) ?_
  refine gl_op (op_call rfl (vf := []) (vc := []) rfl rfl Try.call18 (fun w1 ho => by
    have h9 := Fits_ok a c l hle sa sc shop hsl q cq ats hal w1 (hJ.at ho) (hS.at ho) (hT.at ho)
    rw [hfv] at h9
    exact h9) ?_)
  rintro _ _ ⟨rfl, rfl⟩
  refine gl_op <| op_rd rfl (rd_move rfl) <| gl_op <| op_rd rfl (rd_extract rfl rfl) <| gl_op <| op_rd rfl (rd_extract rfl rfl) <| gl_op <| op_rd rfl (rd_extract rfl rfl) <| gl_op <| op_rd rfl (rd_assign rfl) <| gl_op <| op_rd rfl (rd_assign rfl) <| gl_op <| op_rd rfl (rd_assign rfl) <| gl_nil <| gx_then <| gc_seq <| gc_region <| gl_op <| op_rd rfl (rd_move rfl) <| gl_op <| op_rd rfl (rd_move rfl) <| gl_op <| op_rd rfl (rd_move rfl) ?_
  refine gl_op (op_call rfl (vf := []) (vc := []) rfl rfl Try.call19 (fun w1 ho => by
    have h9 := rFits_ok a c l hle sa sc shop hsl q cq ats hal w1 (hJ.at ho) (hS.at ho) (hT.at ho)
    rw [hfv] at h9
    exact h9) ?_)
  rintro _ _ ⟨rfl, rfl⟩
  refine gl_op <| op_rd rfl (rd_move rfl) <| gl_op <| op_rd rfl (rd_extract rfl rfl) <| gl_op <| op_rd rfl (rd_extract rfl rfl) <| gl_op <| op_rd rfl (rd_extract rfl rfl) <| gl_op <| op_rd rfl (rd_assign rfl) <| gl_op <| op_rd rfl (rd_assign rfl) <| gl_op <| op_rd rfl (rd_assign rfl) <| gl_nil <| gx_then <| gc_seq <| gc_region <| gl_op <| op_rd rfl (rd_move rfl) <| gl_op <| op_rd rfl (rd_move rfl) <| gl_op <| op_rd rfl (rd_eqlb Try.runUnderlying4 rfl rfl) ?_
  rw [show (fa == fa) = true by simp]
  refine gl_op <| op_rd rfl (rd_move rfl) <| gl_yes rfl rfl <| op_rd rfl (rd_move rfl) <| gl_yes rfl rfl <| op_rd rfl (rd_move rfl) <| gl_yes rfl rfl (op_rd rfl (rd_eql rfl rfl) (gk_dec (fun h38 => ?_) (fun h38 => ?_)))
  · refine gl_op <| op_rd rfl (rd_pick_t rfl rfl) <| gl_op <| op_rd rfl (rd_move rfl) <| gl_yes rfl rfl <| op_rd rfl (rd_move rfl) <| gl_yes rfl rfl <| op_rd rfl (rd_move rfl) <| gl_yes rfl rfl (op_rd rfl (rd_eql rfl rfl) (gk_dec (fun h43 => ?_) (fun h43 => ?_)))
    · refine gl_op <| op_rd rfl (rd_pick_t rfl rfl) <| gl_op <| op_rd rfl (rd_move rfl) <| gl_yes rfl rfl (op_call rfl (vf := []) (vc := []) rfl rfl Try.call9 (fun w1 ho => shown_ok w1) ?_)
      rintro _ _ ⟨rfl, rfl⟩
      refine gl_op <| op_rd rfl (rd_pick_t rfl rfl) <| gl_op <| op_rd rfl (rd_assign rfl) <| gl_nil <| gx_then <| gc_ret <| gx_ret1 (.inl rfl) Try.results4 rfl [] (by decide) ?_
      exact ⟨rfl, rfl⟩
    exact absurd rfl h43
  exact absurd rfl h38
end Go.Proofs.Ytafmcflggikbfaa
