import Derived.Test.YtafmcflggikbfaaW04
import Derived.Test.YtafmcflggikbfaaW03
import Derived.Test.YtafmcflggikbfaaW00
/- A part of the proof: walks of the program. -/
set_option autoImplicit false
set_option linter.unusedSimpArgs false
set_option linter.unusedVariables false
set_option linter.unnecessarySimpa false
namespace Go.Proofs.Ytafmcflggikbfaa
open Go.Gv
open Go.RowKit
open Go.Sn
open Go.Wk
open Sx
namespace Sx
theorem blkOut0 {w0 w : World} {S : List Nat} {B : List HL} (ho : Own w0 S w B) (i : Nat) (ic : List Nat) {b : Nat} {cs : List Value} {ty : TypeId} (k : Nat) (hk : cs.length = k) (hi : B[i]? = some (.blk b cs ty)) (hn : i ∉ ic) : OldSl w ((pick ic B).filterMap HL.block) (some ⟨b, 0, none⟩) 1 k cs := by
  have h := blkMem ho k hk (List.mem_of_getElem? hi)
  refine ⟨h.len, h.isSome, h.cells, fun _ hb => ?_⟩
  obtain ⟨y, hy, hyb⟩ := List.mem_filterMap.1 hb
  simp only [pick, List.mem_filterMap] at hy
  obtain ⟨j, hj, hyj⟩ := hy
  have := nodup_inj ho.nodup hi hyj rfl hyb
  subst this
  exact hn hj
theorem soP_p0 (l : List Jb) : soP l (p0 l) = 0 := by
  have h : soP l (p0 l) ≤ 0 := soP_le.2 fun i hi hp => by
    exfalso
    unfold plB p0 at hp
    rw [List.getD_eq_getElem?_getD, List.getElem?_replicate, if_pos hi] at hp
    cases hp
  omega
theorem shop_pos {shop : List Int} (h : shopB shop = true) : shop.length ≤ 6 ∧ ∀ s ∈ shop, 1 ≤ s := by
  unfold shopB at h
  simp only [Bool.and_eq_true, decide_eq_true_eq, Bool.not_eq_true'] at h
  refine ⟨h.1, fun s hs => ?_⟩
  have := List.any_eq_false.1 h.2 s hs
  unfold shF at this
  simp at this
  omega
theorem benS_lt {shop : List Int} {n : List Jb} (h : benS shop n = false) : ∀ x ∈ n, x.bench < shop.length := fun x hx => by
  unfold benS at h
  have := List.any_eq_false.1 h x hx
  simp at this
  omega
end Sx
open Sx
set_option maxRecDepth 100000 in
set_option maxHeartbeats 1000000 in
theorem search_ok (a : Option Addr) (c : Nat) (l : List Jb) (hg : GoodJ l) (h7 : l.length ≤ 7) (sa : Option Addr) (sc : Nat) (shop : List Int) (hsl : shop.length ≤ 6) (hsp : ∀ s ∈ shop, 1 ≤ s) (hbn : ∀ x ∈ l, x.bench < shop.length) (bp qa qb : Nat) (w0 : World) (hown : Own w0 ([plH bp sa shop.length sc a l c qa qb (none) none 0, atH qa l (p0 l), isH qb l (p0 l), srR (none) none 0].filterMap HL.block) w0 [plH bp sa shop.length sc a l c qa qb (none) none 0, atH qa l (p0 l), isH qb l (p0 l), srR (none) none 0]) (hJ : JnIn a l w0 ([plH bp sa shop.length sc a l c qa qb (none) none 0, atH qa l (p0 l), isH qb l (p0 l), srR (none) none 0].filterMap HL.block)) (hS : OldSl w0 ([plH bp sa shop.length sc a l c qa qb (none) none 0, atH qa l (p0 l), isH qb l (p0 l), srR (none) none 0].filterMap HL.block) sa shop.length 1 (shop.map intV)) : Sp Try.prog 45 [.pointer (some ⟨bp, 0, none⟩)] w0 ([plH bp sa shop.length sc a l c qa qb (none) none 0, atH qa l (p0 l), isH qb l (p0 l), srR (none) none 0].filterMap HL.block) (fun v L => v = .tuple #[] ∧ ∃ rb' cb', BestOk (planO shop l) rb' cb' l.length ∧ L = [plH bp sa shop.length sc a l c qa qb (planO shop l) rb' cb', atH qa l (p0 l), isH qb l (p0 l), srR (planO shop l) rb' cb']) := by
  refine spec_enter Try.func45 rfl Try.ntmps45 rfl hown ?_
  simp only [argEnv]
  refine gc_seq <| gc_region <| gl_op (op_box rfl rfl rfl (fun b1 => ?_))
  refine gl_nil <| gx_then <| gc_seq <| gc_region <| gl_op (op_alloc ty_89 rfl rfl (fun b2 => ?_))
  refine gl_nil <| gx_then <| gc_seq <| gc_region <| gl_op <| op_rd rfl (rd_makeFunc (fs := []) (cs := [.tmp 1, .tmp 2]) rfl rfl) <| gl_op (op_store 0 ty_89 rfl rfl rfl rfl rfl (by rfl) (by rfl) ?_)
  refine gl_nil <| gx_then <| gc_region <| gl_op (op_rd rfl (rd_load Try.underlying89 rfl rfl (by exact ld_blk 0 rfl rfl)) ?_)
  refine gl_op (op_callM [2, 3, 4, 5] [0, 1] rfl (vf := []) (vc := [.pointer (some ⟨b1, 0, none⟩), .pointer (some ⟨b2, 0, none⟩)]) rfl rfl Try.call56 (by decide) rfl (fun w how hc => by
    have h9 := srch_ok a c l hg h7 sa sc shop hsl hsp hbn bp qa qb b1 b2 l.length (p0 l) PlOk.start 0 (by omega) none none 0 (.inl rfl) ⟨rfl, rfl⟩ w hc (JnIn.outB hJ how [2, 3, 4, 5]) (slOutB how hS (by decide) [2, 3, 4, 5]) (blkOut0 how 1 [2, 3, 4, 5] 1 rfl rfl (by decide)) (blkOut0 how 0 [2, 3, 4, 5] 1 rfl rfl (by decide))
    rw [soP_p0] at h9
    exact h9) ?_)
  rintro _ _ ⟨rfl, rb2, cb2, hB2, rfl⟩
  refine gl_nil <| gx_ret0 (.inr rfl) Try.results45 [0, 1, 2, 3] (by decide) ?_
  exact ⟨rfl, rb2, cb2, hB2, rfl⟩
set_option maxRecDepth 100000 in
set_option maxHeartbeats 1000000 in
theorem Plan_ok (a : Option Addr) (c : Nat) (l : List JI) (hle : JsLe l)  (sa : Option Addr) (sc : Nat) (shop : List Int) (hsl : shop.length ≤ 140737488355328) (w0 : World) (hJ : JsIn a l w0 []) (hS : OldSl w0 [] sa shop.length 1 (shop.map intV)) : Sp Try.prog 20 [.slice sa shop.length sc, .slice a l.length c] w0 [] (PlanR 2 shop l) := by
  refine spec_enter Try.func20 rfl Try.ntmps20 rfl (Own.refl _) ?_
  simp only [argEnv]
  refine gc_seq <| gc_region <| gl_op (op_box rfl rfl rfl (fun b2 => ?_))
  refine gl_op <| op_rd rfl (rd_assign rfl) <| gl_op <| op_rd rfl (rd_assign rfl) <| gl_op <| op_rd rfl (rd_assign rfl) <| gl_nil <| gx_then <| gc_seq <| gc_seq <| gc_region <| gl_op <| op_rd rfl (rd_move rfl) <| gl_op (op_call rfl (vf := []) (vc := []) rfl rfl Try.call14 (fun w1 ho => Check_ok a c l hle w1 (hJ.at ho)) ?_)
  rintro _ _ ⟨rfl, rfl⟩
  refine gl_op <| op_rd rfl (rd_assign rfl) <| gl_nil <| gx_then <| gc_seq <| gc_region <| gl_op <| op_rd rfl (rd_move rfl) <| gl_op (op_rd rfl (rd_neq rfl rfl) (gk_dec (fun h12 => ?_) (fun h12 => ?_)))
  · refine gl_nil <| gx_then <| gc_cond_t rfl <| gc_seq <| gc_region <| gl_op <| op_rd rfl (rd_move rfl) <| gl_op <| op_rd rfl (rd_assign rfl) <| gl_op <| op_rd rfl (rd_assign rfl) <| gl_op <| op_rd rfl (rd_assign rfl) <| gl_nil <| gx_then <| gc_ret <| gx_then_ret <| gx_ret3 (.inl rfl) Try.results20 rfl rfl rfl [] (by decide) ?_
    exact .inl ⟨by rw [planE_c (by omega)]; omega, by rw [planE_c (by omega)], rfl⟩
  have hch : checkE l = 0 := by omega
  refine gl_nil <| gx_then <| gc_cond_f rfl <| gc_skip <| gx_then <| gc_seq <| gc_seq <| gc_region <| gl_op <| op_rd rfl (rd_move rfl) <| gl_op <| op_rd rfl (rd_lenSlice Try.underlying22 rfl) <| gl_op (op_rd rfl (rd_gtr rfl rfl) (gk_dec (fun h16 => ?_) (fun h16 => ?_)))
  · have h7 : 7 < l.length := by omega
    refine gl_nil <| gx_then <| gc_cond_t rfl <| gc_seq <| gc_region <| gl_op <| op_rd rfl (rd_assign rfl) <| gl_op <| op_rd rfl (rd_assign rfl) <| gl_op <| op_rd rfl (rd_assign rfl) <| gl_nil <| gx_then <| gc_ret <| gx_then_ret <| gx_ret3 (.inl rfl) Try.results20 rfl rfl rfl [] (by decide) ?_
    exact .inl ⟨by rw [planE_3 hch (by omega)]; omega, by rw [planE_3 hch (by omega)], rfl⟩
  have h7 : l.length ≤ 7 := by omega
  obtain ⟨n, rfl, hg, hn⟩ := goodJ_of hch
  have hN := JnIn.of hJ
  rw [List.length_map]
  have hj := hg.ok
  have hln := hj.n
  rw [List.length_map] at h7
  refine gl_nil <| gx_then <| gc_cond_f rfl <| gc_skip <| gx_then <| gc_seq <| gc_seq <| gc_region <| gl_op (op_rd rfl (rd_load Try.underlying29 rfl rfl (by exact ld_blk 0 rfl rfl)) ?_)
  refine gl_op (op_call rfl (vf := []) (vc := []) rfl rfl Try.call37 (fun w1 ho => shopped_ok sa sc shop hsl w1 (hS.at ho)) ?_)
  rintro _ _ ⟨rfl, rfl⟩
  refine gk_bool (fun hs => ?_) (fun hs => ?_)
  · refine gl_op <| op_rd rfl (rd_not rfl) <| gl_nil <| gx_then <| gc_cond_f rfl <| gc_skip <| gx_then <| gc_seq <| gc_seq <| gc_region <| gl_op <| op_rd rfl (rd_move rfl) <| gl_op <| op_rd rfl (rd_makeFunc (fs := []) (cs := [.tmp 2]) rfl rfl) <| gl_op (op_call rfl (vf := []) (vc := []) rfl rfl Try.call32 (fun w1 ho => containsBen_ok a c n hln b2 sa sc shop hsl w1 (hN.at ho) (blkMem ho 1 rfl (List.mem_of_getElem? (i := 0) rfl))) ?_)
    rintro _ _ ⟨rfl, rfl⟩
    refine gk_bool (fun hb9 => ?_) (fun hb9 => ?_)
    · refine gl_nil <| gx_then <| gc_cond_t rfl <| gc_seq <| gc_region <| gl_op <| op_rd rfl (rd_assign rfl) <| gl_op <| op_rd rfl (rd_assign rfl) <| gl_op <| op_rd rfl (rd_assign rfl) <| gl_nil <| gx_then <| gc_ret <| gx_then_ret <| gx_ret3 (.inl rfl) Try.results20 rfl rfl rfl [] (by decide) ?_
      exact .inl ⟨by rw [planE_4 hch (by rw [List.length_map]; omega) hs (by rw [hn]; exact hb9)]; omega, by rw [planE_4 hch (by rw [List.length_map]; omega) hs (by rw [hn]; exact hb9)], rfl⟩
    refine gl_nil <| gx_then <| gc_cond_f rfl <| gc_skip <| gx_then <| gc_seq <| gc_drawP [0] true 10 rfl <| ga_first 0 (bm 11 1) rfl rfl rfl rfl (by kernel_rfl) (by kernel_rfl) ⟨[0], by decide, rfl⟩ (qt_rd (rd_load Try.underlying29 rfl rfl (by exact ld_blk 0 rfl rfl))) ?_
    refine ga_first 1 (bm 11 3) rfl rfl rfl rfl (by kernel_rfl) (by kernel_rfl) ⟨[0], by decide, rfl⟩ (qt_rd (rd_move rfl)) ?_
    refine ga_first 2 (bm 11 7) rfl rfl rfl rfl (by kernel_rfl) (by kernel_rfl) ⟨[0], by decide, rfl⟩ (qt_rd (rd_move rfl)) ?_
    refine ga_first 3 (bm 11 15) rfl rfl rfl rfl (by kernel_rfl) (by kernel_rfl) ⟨[0], by decide, rfl⟩ (qt_rd (rd_lenSlice Try.underlying22 rfl)) ?_
    refine ga_first 5 (bm 11 47) rfl rfl rfl rfl (by kernel_rfl) (by kernel_rfl) ⟨[0], by decide, rfl⟩ (qt_rd (rd_move rfl)) ?_
    refine ga_first 6 (bm 11 111) rfl rfl rfl rfl (by kernel_rfl) (by kernel_rfl) ⟨[0], by decide, rfl⟩ (qt_rd (rd_lenSlice Try.underlying22 rfl)) ?_
    refine ga_two 4 7 (bm 11 127) (bm 11 239) rfl rfl rfl rfl (by kernel_rfl) (by kernel_rfl) (by kernel_rfl) (.inr ⟨[0], by decide, rfl⟩) ?_ ?_
    · refine (op_makeSlice (n.length) Try.underlying25 ty_2 rfl rfl rfl (by omega) (by omega) (by omega) (by omega) (fun b27 => ?_))
      refine ga_only 7 (bm 11 255) rfl rfl (by kernel_rfl) (by kernel_rfl) (.inr ⟨[1], by decide, rfl⟩) (op_makeSlice (n.length) Try.underlying74 ty_4 rfl rfl rfl (by omega) (by omega) (by omega) (by omega) (fun b30 => ?_))
      refine ga_first 8 (bm 11 511) rfl rfl rfl rfl (by kernel_rfl) (by kernel_rfl) ⟨[2], by decide, rfl⟩ (qt_rd (rd_build rfl (fun _ => bd_76_0_1_2_3 _ _ _ _ _ _ _ _ _ _ _ _))) ?_
      refine ga_only 9 (bm 11 1023) rfl rfl (by kernel_rfl) (by kernel_rfl) (.inr ⟨[2], by decide, rfl⟩) (op_box rfl rfl rfl (fun b32 => ?_))
      refine ga_first 10 (bm 11 2047) rfl rfl rfl rfl (by kernel_rfl) (by kernel_rfl) ⟨[3], by decide, rfl⟩ (qt_rd (rd_assign rfl)) ?_
      refine ga_end (by kernel_rfl) (.inr ⟨[3], by decide, rfl⟩) ?_
      refine gx_then <| gc_seq <| gk_nil 2 1 <| gc_region <| gl_op <| op_rd rfl (rd_move rfl) ?_
      rw [made_one _ rfl, made_one _ rfl, ← p0_atC n, ← p0_isC n]
      refine gl_op (op_callM [1, 3, 2, 0] [4] rfl (vf := []) (vc := []) rfl rfl Try.call45 (by decide) rfl (fun w how hc => search_ok a c n hg h7 sa sc shop (shop_pos hs).1 (shop_pos hs).2 (benS_lt hb9) b32 b27 b30 w hc (JnIn.outB hN how [1, 3, 2, 0]) (slOutB how hS (by decide) [1, 3, 2, 0])) ?_)
      rintro _ _ ⟨rfl, rb2, cb2, hB2, rfl⟩
      obtain ⟨g, hbo, hbm⟩ := plan_some (shop := shop) hg
      rw [hbo] at hB2 ⊢
      refine gl_nil <| gx_then <| gc_seq <| gc_drawP [0, 1, 2, 3, 4] true 10 rfl <| ga_first 0 (bm 11 1) rfl rfl rfl rfl (by kernel_rfl) (by kernel_rfl) ⟨[0, 1, 2, 3, 4], by decide, rfl⟩ (qt_rd (rd_move rfl)) ?_
      refine ga_first 1 (bm 11 3) rfl rfl rfl rfl (by kernel_rfl) (by kernel_rfl) ⟨[0, 1, 2, 3, 4], by decide, rfl⟩ (qt_rd (rd_nilCheck rfl)) ?_
      refine ga_first 2 (bm 11 7) rfl rfl rfl rfl (by kernel_rfl) (by kernel_rfl) ⟨[0, 1, 2, 3, 4], by decide, rfl⟩ (qt_rd (rd_fieldAddr rfl (fa_76_4 _))) ?_
      refine ga_first 3 (bm 11 15) rfl rfl rfl rfl (by kernel_rfl) (by kernel_rfl) ⟨[0, 1, 2, 3, 4], by decide, rfl⟩ (qt_rd (rd_load Try.underlying25 rfl rfl (by exact ld_blk 0 rfl rfl))) ?_
      refine ga_first 4 (bm 11 31) rfl rfl rfl rfl (by kernel_rfl) (by kernel_rfl) ⟨[0, 1, 2, 3, 4], by decide, rfl⟩ (qt_rd (rd_move rfl)) ?_
      refine ga_first 5 (bm 11 63) rfl rfl rfl rfl (by kernel_rfl) (by kernel_rfl) ⟨[0, 1, 2, 3, 4], by decide, rfl⟩ (qt_rd (rd_nilCheck rfl)) ?_
      refine ga_first 6 (bm 11 127) rfl rfl rfl rfl (by kernel_rfl) (by kernel_rfl) ⟨[0, 1, 2, 3, 4], by decide, rfl⟩ (qt_rd (rd_fieldAddr rfl (fa_76_5 _))) ?_
      refine ga_first 7 (bm 11 255) rfl rfl rfl rfl (by kernel_rfl) (by kernel_rfl) ⟨[0, 1, 2, 3, 4], by decide, rfl⟩ (qt_rd (rd_load Try.underlying2 rfl rfl (by exact ld_blk 0 rfl rfl))) ?_
      refine ga_first 8 (bm 11 511) rfl rfl rfl rfl (by kernel_rfl) (by kernel_rfl) ⟨[0, 1, 2, 3, 4], by decide, rfl⟩ (qt_rd (rd_assign rfl)) ?_
      refine ga_first 9 (bm 11 1023) rfl rfl rfl rfl (by kernel_rfl) (by kernel_rfl) ⟨[0, 1, 2, 3, 4], by decide, rfl⟩ (qt_rd (rd_assign rfl)) ?_
      refine ga_first 10 (bm 11 2047) rfl rfl rfl rfl (by kernel_rfl) (by kernel_rfl) ⟨[0, 1, 2, 3, 4], by decide, rfl⟩ (qt_rd (rd_assign rfl)) ?_
      refine ga_end (by kernel_rfl) (.inr ⟨[0, 1, 2, 3, 4], by decide, rfl⟩) ?_
      refine gx_then <| gc_ret <| gx_ret3 (.inl rfl) Try.results20 rfl rfl rfl [3] (by decide) ?_
      refine .inr ⟨planE_0 hch (by rw [List.length_map]; omega) hs (by rw [hn]; exact hb9), g, rb2, cb2, by rw [hn]; exact hbo, ?_, rfl⟩
      rw [hn]; rfl
    refine (op_makeSlice (n.length) Try.underlying74 ty_4 rfl rfl rfl (by omega) (by omega) (by omega) (by omega) (fun b30 => ?_))
    refine ga_only 4 (bm 11 255) rfl rfl (by kernel_rfl) (by kernel_rfl) (.inr ⟨[1], by decide, rfl⟩) (op_makeSlice (n.length) Try.underlying25 ty_2 rfl rfl rfl (by omega) (by omega) (by omega) (by omega) (fun b27 => ?_))
    refine ga_first 8 (bm 11 511) rfl rfl rfl rfl (by kernel_rfl) (by kernel_rfl) ⟨[2], by decide, rfl⟩ (qt_rd (rd_build rfl (fun _ => bd_76_0_1_2_3 _ _ _ _ _ _ _ _ _ _ _ _))) ?_
    refine ga_only 9 (bm 11 1023) rfl rfl (by kernel_rfl) (by kernel_rfl) (.inr ⟨[2], by decide, rfl⟩) (op_box rfl rfl rfl (fun b32 => ?_))
    refine ga_first 10 (bm 11 2047) rfl rfl rfl rfl (by kernel_rfl) (by kernel_rfl) ⟨[3], by decide, rfl⟩ (qt_rd (rd_assign rfl)) ?_
    refine ga_end (by kernel_rfl) (.inr ⟨[3], by decide, rfl⟩) ?_
    refine gx_then <| gc_seq <| gk_nil 2 1 <| gc_region <| gl_op <| op_rd rfl (rd_move rfl) ?_
    rw [made_one _ rfl, made_one _ rfl, ← p0_atC n, ← p0_isC n]
    refine gl_op (op_callM [1, 2, 3, 0] [4] rfl (vf := []) (vc := []) rfl rfl Try.call45 (by decide) rfl (fun w how hc => search_ok a c n hg h7 sa sc shop (shop_pos hs).1 (shop_pos hs).2 (benS_lt hb9) b32 b27 b30 w hc (JnIn.outB hN how [1, 2, 3, 0]) (slOutB how hS (by decide) [1, 2, 3, 0])) ?_)
    rintro _ _ ⟨rfl, rb2, cb2, hB2, rfl⟩
    obtain ⟨g, hbo, hbm⟩ := plan_some (shop := shop) hg
    rw [hbo] at hB2 ⊢
    refine gl_nil <| gx_then <| gc_seq <| gc_drawP [0, 1, 2, 3, 4] true 10 rfl <| ga_first 0 (bm 11 1) rfl rfl rfl rfl (by kernel_rfl) (by kernel_rfl) ⟨[0, 1, 2, 3, 4], by decide, rfl⟩ (qt_rd (rd_move rfl)) ?_
    refine ga_first 1 (bm 11 3) rfl rfl rfl rfl (by kernel_rfl) (by kernel_rfl) ⟨[0, 1, 2, 3, 4], by decide, rfl⟩ (qt_rd (rd_nilCheck rfl)) ?_
    refine ga_first 2 (bm 11 7) rfl rfl rfl rfl (by kernel_rfl) (by kernel_rfl) ⟨[0, 1, 2, 3, 4], by decide, rfl⟩ (qt_rd (rd_fieldAddr rfl (fa_76_4 _))) ?_
    refine ga_first 3 (bm 11 15) rfl rfl rfl rfl (by kernel_rfl) (by kernel_rfl) ⟨[0, 1, 2, 3, 4], by decide, rfl⟩ (qt_rd (rd_load Try.underlying25 rfl rfl (by exact ld_blk 0 rfl rfl))) ?_
    refine ga_first 4 (bm 11 31) rfl rfl rfl rfl (by kernel_rfl) (by kernel_rfl) ⟨[0, 1, 2, 3, 4], by decide, rfl⟩ (qt_rd (rd_move rfl)) ?_
    refine ga_first 5 (bm 11 63) rfl rfl rfl rfl (by kernel_rfl) (by kernel_rfl) ⟨[0, 1, 2, 3, 4], by decide, rfl⟩ (qt_rd (rd_nilCheck rfl)) ?_
    refine ga_first 6 (bm 11 127) rfl rfl rfl rfl (by kernel_rfl) (by kernel_rfl) ⟨[0, 1, 2, 3, 4], by decide, rfl⟩ (qt_rd (rd_fieldAddr rfl (fa_76_5 _))) ?_
    refine ga_first 7 (bm 11 255) rfl rfl rfl rfl (by kernel_rfl) (by kernel_rfl) ⟨[0, 1, 2, 3, 4], by decide, rfl⟩ (qt_rd (rd_load Try.underlying2 rfl rfl (by exact ld_blk 0 rfl rfl))) ?_
    refine ga_first 8 (bm 11 511) rfl rfl rfl rfl (by kernel_rfl) (by kernel_rfl) ⟨[0, 1, 2, 3, 4], by decide, rfl⟩ (qt_rd (rd_assign rfl)) ?_
    refine ga_first 9 (bm 11 1023) rfl rfl rfl rfl (by kernel_rfl) (by kernel_rfl) ⟨[0, 1, 2, 3, 4], by decide, rfl⟩ (qt_rd (rd_assign rfl)) ?_
    refine ga_first 10 (bm 11 2047) rfl rfl rfl rfl (by kernel_rfl) (by kernel_rfl) ⟨[0, 1, 2, 3, 4], by decide, rfl⟩ (qt_rd (rd_assign rfl)) ?_
    refine ga_end (by kernel_rfl) (.inr ⟨[0, 1, 2, 3, 4], by decide, rfl⟩) ?_
    refine gx_then <| gc_ret <| gx_ret3 (.inl rfl) Try.results20 rfl rfl rfl [3] (by decide) ?_
    refine .inr ⟨planE_0 hch (by rw [List.length_map]; omega) hs (by rw [hn]; exact hb9), g, rb2, cb2, by rw [hn]; exact hbo, ?_, rfl⟩
    rw [hn]; rfl
  refine gl_op <| op_rd rfl (rd_not rfl) <| gl_nil <| gx_then <| gc_cond_t rfl <| gc_seq <| gc_region <| gl_op <| op_rd rfl (rd_assign rfl) <| gl_op <| op_rd rfl (rd_assign rfl) <| gl_op <| op_rd rfl (rd_assign rfl) <| gl_nil <| gx_then <| gc_ret <| gx_then_ret <| gx_ret3 (.inl rfl) Try.results20 rfl rfl rfl [] (by decide) ?_
  exact .inl ⟨by rw [planE_2 hch (by rw [List.length_map]; omega) hs]; omega, by rw [planE_2 hch (by rw [List.length_map]; omega) hs], rfl⟩
end Go.Proofs.Ytafmcflggikbfaa
namespace Go.Wk
open Go.Gv
open Go.Sn
/-- a schedule, all jobs placed -/
def allP (l : List Jb) (s : List Nat) : Plc := ⟨s, List.replicate l.length true⟩
structure Fit (shop : List Int) (l : List Jb) (s : List Nat) : Prop where
  len : s.length = l.length
  aft : ∀ i, i < l.length → aft l s i ≤ s.getD i 0
  cnt : ∀ i, i < l.length → ∀ h, s.getD i 0 ≤ h → h < s.getD i 0 + hr l i → (cntA l (allP l s) (bn l i) h : Int) ≤ sb shop (bn l i)
/-- placed jobs are nowhere later than s, and no job that is left begins earlier in s -/
structure Und (l : List Jb) (s : List Nat) (p : Plc) : Prop where
  le : ∀ j, j < l.length → plB p j = true → atN p j ≤ s.getD j 0
  down : ∀ j i, j < l.length → i < l.length → plB p j = true → plB p i = false → s.getD j 0 ≤ s.getD i 0
end Go.Wk
namespace Go.Wk
open Go.Gv
open Go.Sn
/-! # What Plan returns is best, and fits -/
theorem p0_no (l : List Jb) (i : Nat) : plB (p0 l) i = false := by
  unfold plB p0
  rw [List.getD_eq_getElem?_getD, List.getElem?_replicate]
  split <;> rfl
structure FeaP (shop : List Int) (l : List Jb) (p : Plc) : Prop where
  cnt : ∀ b h, (cntA l p b h : Int) ≤ sb shop b
  pre : ∀ i, i < l.length → plB p i = true → ∀ q ∈ preOf l i, plB p q = true
  aft : ∀ i, i < l.length → plB p i = true → aft l p.at_ i ≤ atN p i
theorem cnt_put_eq {l : List Jb} {p : Plc} {i t : Nat} (hla : p.at_.length = l.length) (hli : p.is.length = l.length) (hi : i < l.length) (hp : plB p i = false) (b h : Nat) : cntA l (pput p i t) b h ≤ cntA l p b h + if bn l i = b ∧ t ≤ h ∧ h < t + hr l i then 1 else 0 := by
  have hx : ∀ x, x ≠ i → runQ l (pput p i t) b h x = runQ l p b h x := fun x hx => by
    unfold runQ
    rw [plB_put (by omega), atN_put (by omega), if_neg (fun e => hx e.symm), decide_eq_false (fun e => hx e.symm), Bool.false_or]
  have h0 : runQ l p b h i = false := by unfold runQ; rw [hp]; rfl
  unfold cntA cntQ
  by_cases hc : bn l i = b ∧ t ≤ h ∧ h < t + hr l i
  · rw [if_pos hc]
    have h1 : runQ l (pput p i t) b h i = true := by
      unfold runQ
      rw [plB_put (by omega), atN_put (by omega), if_pos rfl, decide_eq_true rfl, decide_eq_true hc.1, decide_eq_true hc.2.1, decide_eq_true hc.2.2]; rfl
    exact Nat.le_of_eq (filter_one (a := i) List.nodup_range (List.mem_range.2 hi) h1 h0 hx)
  · rw [if_neg hc, Nat.add_zero]
    refine filt_le _ fun x hxm hf => ?_
    by_cases e : x = i
    · subst e
      exfalso
      unfold runQ at hf
      rw [plB_put (by omega), atN_put (by omega), if_pos rfl] at hf
      simp only [Bool.and_eq_true, decide_eq_true_eq] at hf
      exact hc ⟨hf.1.1.2, hf.1.2, hf.2⟩
    · rw [← hx x e]; exact hf
theorem place_free {shop : List Int} {l : List Jb} {p : Plc} {i : Nat} (hs : (placeO shop l p i).isSome = true) : Free shop l p i (placeF shop l p i) ∧ aftP1 l p i ≤ placeF shop l p i := by
  obtain ⟨b, hb⟩ := Option.isSome_iff_exists.1 hs
  have h := bestF_is (freeB shop l p i) (cand l p i l.length)
  unfold placeF
  rw [hb]
  unfold placeO at hb
  rw [hb] at h
  refine ⟨freeB_iff.1 h.2.1, ?_⟩
  rcases List.mem_cons.1 h.1 with e | hm
  · rw [Option.getD_some, e]; exact Nat.le_refl _
  · unfold candS at hm
    obtain ⟨q, hq, he⟩ := List.mem_map.1 hm
    have := (List.mem_filter.1 hq).2
    simp only [Bool.and_eq_true, decide_eq_true_eq] at this
    rw [Option.getD_some]; omega
theorem FeaP.next {shop : List Int} {l : List Jb} (hj : JOk l) (hsh : ∀ i, i < l.length → 1 ≤ sb shop (bn l i)) {r : Nat} {p : Plc} (h : PlOk l (r + 1) p) (hf : FeaP shop l p) {i : Nat} (hi : i < l.length) (hrd : readyB l p i = true) : FeaP shop l (nextP shop l p i) := by
  obtain ⟨h1, h2⟩ := ready_of hrd
  obtain ⟨hfr, hge⟩ := place_free (place_some (shop := shop) (p := p) (hsh i hi) fun k hk => (hj.hrs k hk).1)
  have hli : i < p.is.length := by rw [h.li]; exact hi
  have hla : i < p.at_.length := by rw [h.la]; exact hi
  refine ⟨fun b hh => ?_, fun j hjl hp q hq => ?_, fun j hjl hp => ?_⟩
  · have e1 := cnt_put_eq (t := placeF shop l p i) h.la h.li hi h1 b hh
    have e2 := hf.cnt b hh
    unfold nextP
    split at e1
    · rename_i hc
      have e3 := hfr hh hc.2.1 hc.2.2
      rw [hc.1] at e3
      omega
    · omega
  · unfold nextP at hp ⊢
    rw [plB_put hli] at hp ⊢
    by_cases e : i = j
    · subst e; rw [h2 q hq, Bool.or_true]
    · rw [decide_eq_false e, Bool.false_or] at hp
      rw [hf.pre j hjl hp q hq, Bool.or_true]
  · unfold nextP at hp ⊢
    rw [plB_put hli] at hp
    have hsame : ∀ q ∈ preOf l j, (pput p i (placeF shop l p i)).at_.getD q 0 = p.at_.getD q 0 := fun q hq => by
      have hpq : plB p q = true := by
        by_cases e : i = j
        · subst e; exact h2 q hq
        · rw [decide_eq_false e, Bool.false_or] at hp
          exact hf.pre j hjl hp q hq
      have hne : i ≠ q := fun e => by rw [e, hpq] at h1; cases h1
      have := atN_put (t := placeF shop l p i) hla q
      rw [if_neg hne] at this
      exact this
    rw [aft_congr hsame, atN_put hla]
    split
    · rename_i e; subst e; exact hge
    · rename_i e
      rw [decide_eq_false e, Bool.false_or] at hp
      exact hf.aft j hjl hp
theorem FeaP.start {shop : List Int} {l : List Jb} (hsh : ∀ b, 0 ≤ sb shop b) : FeaP shop l (p0 l) := by
  refine ⟨fun b h => ?_, fun i _ hp => (by rw [p0_no] at hp; cases hp), fun i _ hp => (by rw [p0_no] at hp; cases hp)⟩
  have : cntA l (p0 l) b h = 0 := by
    unfold cntA cntQ
    rw [List.length_eq_zero_iff, List.filter_eq_nil_iff]
    intro k _ hk
    unfold runQ at hk
    rw [p0_no] at hk; cases hk
  have := hsh b
  omega
end Go.Wk
namespace Go.Wk
open Go.Gv
open Go.Sn
end Go.Wk
namespace Go.Wk
open Go.Gv
open Go.Sn
/-! # The example of the document, computed -/
def exJ (b : Nat) : List JI := [⟨⟨#[99, 97, 115, 116]⟩, 0, 4, none, 0, []⟩, ⟨⟨#[112, 108, 97, 110, 101]⟩, 1, 3, some ⟨b, 0, none⟩, 1, [(0, 20)]⟩, ⟨⟨#[99, 97, 115, 101]⟩, 1, 10, none, 0, []⟩]
def exN (b : Nat) : List Jb := [⟨⟨#[99, 97, 115, 116]⟩, 0, 4, none, 0, []⟩, ⟨⟨#[112, 108, 97, 110, 101]⟩, 1, 3, some ⟨b, 0, none⟩, 1, [(0, 20)]⟩, ⟨⟨#[99, 97, 115, 101]⟩, 1, 10, none, 0, []⟩]
theorem ex_nOf (b : Nat) : nOf (exJ b) = exN b := by kernel_rfl
theorem ex_check (b : Nat) : checkE (exJ b) = 0 := by kernel_rfl
theorem ex_earl (b : Nat) : earlC (exN b) = [0, 24, 0] := by kernel_rfl
theorem ex_end (b : Nat) : endC (exN b) = 27 := by kernel_rfl
theorem ex_crit (b : Nat) : critC (exN b) = [0, 1] := by kernel_rfl
theorem ex_plan (b : Nat) : planO [1, 1] (exN b) = some [0, 24, 0] := by kernel_rfl
theorem ex_pend (b : Nat) : endF (exN b) [0, 24, 0] = 27 := by kernel_rfl
theorem ex_wrong (b : Nat) : wrongP [1, 1] (exN b) [0, 24, 15] = 1 := by kernel_rfl
theorem ex_bad (b : Nat) : badAts (exN b) [0, 24, 15] = false := by kernel_rfl
end Go.Wk
namespace Go.Proofs.Ytafmcflggikbfaa
open Go.Gv
open Go.RowKit
open Go.Sn
open Go.Wk
open Sx
namespace Sx
theorem ex_le (b : Nat) : JsLe (exJ b) := by
  refine ⟨by show 3 ≤ _; decide, fun x hx => ?_, fun x hx => ?_⟩
  · simp only [exJ, List.mem_cons, List.not_mem_nil, or_false] at hx
    rcases hx with rfl | rfl | rfl <;> first | decide | (show (1 : Nat) ≤ _; decide) | (show (5 : Nat) ≤ _; decide)
  · simp only [exJ, List.mem_cons, List.not_mem_nil, or_false] at hx
    rcases hx with rfl | rfl | rfl <;> first | decide | (show (1 : Nat) ≤ _; decide) | (show (5 : Nat) ≤ _; decide)
theorem ex_in {w : World} {b6 b : Nat} (h6 : OldSl w [] (rowA (some b6)) 3 4 ((exJ b).flatMap JI.cells)) (h3 : OldSl w [] (rowA (some b)) 1 2 ([((0 : Int), (20 : Int))].flatMap lagC)) : JsIn (rowA (some b6)) (exJ b) w [] := by
  refine ⟨h6, fun x hx => ?_⟩
  simp only [exJ, List.mem_cons, List.not_mem_nil, or_false] at hx
  rcases hx with rfl | rfl | rfl
  · exact oldNil w [] 2
  · exact h3
  · exact oldNil w [] 2
theorem ex_EarlR {t : TypeId} {b : Nat} {v : Value} {L : List HL} (h : EarlR t (exJ b) v L) : ∃ b9, v = .tuple #[.slice (rowA (some b9)) 3 3, .int .i64 0] ∧ L = [.row t 1 (some b9) 3 3 (([0, 24, 0] : List Int).map intV)] := by
  rcases h with ⟨h, _⟩ | ⟨_, b9, hv, hL⟩
  · exact absurd (ex_check b) h
  · rw [ex_nOf] at hv hL
    rw [ex_earl] at hL
    exact ⟨b9, hv, hL⟩
theorem ex_CritR {t : TypeId} {b : Nat} {v : Value} {L : List HL} (h : CritR t (exJ b) v L) : ∃ r c, v = .tuple #[.slice (rowA r) 2 c, .int .i64 27, .int .i64 0] ∧ L = [.row t 1 r 2 c (([0, 1] : List Int).map intV)] := by
  rcases h with ⟨h, _⟩ | ⟨_, r, c, hv, hL⟩
  · exact absurd (ex_check b) h
  · rw [ex_nOf, ex_crit] at hv hL
    rw [ex_end] at hv
    exact ⟨r, c, hv, hL⟩
theorem ex_fits (b : Nat) : fitsV [1, 1] (exJ b) [0, 24, 15] = .tuple #[.bool false, .int .i64 1, .int .i64 0] := by
  unfold fitsV
  rw [if_neg (by rw [ex_check]; decide), ex_nOf, if_neg (by rw [ex_bad]; decide), ex_wrong]
  rfl
theorem ex_planE (b : Nat) : planE [1, 1] (exJ b) = 0 := planE_0 (ex_check b) (by show 3 ≤ 7; decide) (by decide) (by rw [ex_nOf]; rfl)
theorem ex_PlanR {t : TypeId} {b : Nat} {v : Value} {L : List HL} (h : PlanR t [1, 1] (exJ b) v L) : ∃ r c, v = .tuple #[.slice (rowA r) 3 c, .int .i64 27, .int .i64 0] ∧ L = [.row t 1 r 3 c (([0, 24, 0] : List Int).map intV)] := by
  rcases h with ⟨h, _⟩ | ⟨_, g, r, c, hg, hv, hL⟩
  · exact absurd (ex_planE b) h
  · rw [ex_nOf] at hg hv
    rw [ex_plan] at hg
    have := (Option.some.inj hg).symm
    subst this
    rw [ex_pend] at hv
    exact ⟨r, c, hv, hL⟩
theorem ex_planE1 (b : Nat) : planE [1] (exJ b) = 4 := planE_4 (ex_check b) (by show 3 ≤ 7; decide) (by decide) (by rw [ex_nOf]; rfl)
theorem ex_PlanR1 {t : TypeId} {b : Nat} {v : Value} {L : List HL} (h : PlanR t [1] (exJ b) v L) : v = .tuple #[.slice none 0 0, .int .i64 0, .int .i64 4] ∧ L = [] := by
  rcases h with ⟨_, hv, hL⟩ | ⟨h, _⟩
  · rw [ex_planE1] at hv
    exact ⟨hv, hL⟩
  · rw [ex_planE1] at h; cases h
end Sx
open Sx
set_option maxRecDepth 100000 in
set_option maxHeartbeats 1000000 in
theorem example_ok (w0 : World) : Sp Try.prog 25 [] w0 [] (fun v L => ∃ b6 b3, v = .slice (rowA (some b6)) 3 3 ∧ L = [.row 48 4 (some b6) 3 3 ((exJ b3).flatMap JI.cells), .row 50 2 (some b3) 1 1 ([((0 : Int), (20 : Int))].flatMap lagC)]) := by
  refine spec_enter Try.func25 rfl Try.ntmps25 rfl (Own.refl _) ?_
  simp only [argEnv]
  refine gc_seq <| gc_region <| gl_op <| op_rd rfl (rd_assign rfl) <| gl_nil <| gx_then <| gc_seq <| gc_region <| gl_op (op_rd rfl (rd_build rfl (fun _ => bd_48_0_1_2 _ _ _)) ?_)
  refine gl_op (op_rd rfl (rd_build rfl (fun _ => bd_50_0_1 _ _)) ?_)
  refine gl_op (op_buildSlice (sz := 2) rfl rfl (fun _ => bs_46_1_0 _ _) rfl rfl (fun b3 => ?_))
  refine gl_op (op_rd rfl (rd_build rfl (fun _ => bd_48_0_1_2_3 _ _ _ _ _ _)) ?_)
  refine gl_op (op_rd rfl (rd_build rfl (fun _ => bd_48_0_1_2 _ _ _)) ?_)
  refine gl_op (op_buildSlice (sz := 4) rfl rfl (fun _ => bs_22_3_0_1_2 _ _ _ _ _ _ _ _ _ _ _ _ _ _ _ _ _ _) rfl rfl (fun b6 => ?_))
  refine gl_op <| op_rd rfl (rd_assign rfl) <| gl_nil <| gx_then <| gc_ret <| gx_ret1 (.inl rfl) Try.results25 rfl [0, 1] (by decide) ?_
  exact ⟨b6, b3, rfl, rfl⟩
set_option maxRecDepth 100000 in
set_option maxHeartbeats 1000000 in
theorem shown_ok (w0 : World) : Sp Try.prog 9 [] w0 [] (RV (.bool true)) := by
  refine spec_enter Try.func9 rfl Try.ntmps9 rfl (Own.refl _) ?_
  simp only [argEnv]
  refine gc_seq <| gc_region <| gl_op <| op_rd rfl (rd_assign rfl) <| gl_nil <| gx_then <| gc_seq <| gc_region <| gl_op (op_call rfl (vf := []) (vc := []) rfl rfl Try.call25 (fun w1 ho => example_ok w1) ?_)
  rintro _ _ ⟨b6, b3, rfl, rfl⟩
  refine gl_op <| op_rd rfl (rd_assign rfl) <| gl_nil <| gx_then <| gc_seq <| gc_region <| gl_op <| op_rd rfl (rd_move rfl) <| gl_op (op_call rfl (vf := []) (vc := []) rfl rfl Try.call10 (fun w1 ho => (Earliest_ok (rowA (some b6)) 3 (exJ b3) (ex_le b3)  w1 (ex_in (ho.rowSl 0 rfl) (ho.rowSl 1 rfl))).mono fun v L h => ex_EarlR h) ?_)
  rintro _ _ ⟨b19, rfl, rfl⟩
  refine gl_op <| op_rd rfl (rd_move rfl) <| gl_op <| op_rd rfl (rd_extract rfl rfl) <| gl_op <| op_rd rfl (rd_extract rfl rfl) <| gl_op <| op_rd rfl (rd_assign rfl) <| gl_op <| op_rd rfl (rd_assign rfl) <| gl_nil <| gx_then <| gc_seq <| gc_region <| gl_op <| op_rd rfl (rd_move rfl) <| gl_op (op_call rfl (vf := []) (vc := []) rfl rfl Try.call12 (fun w1 ho => (Critical_ok (rowA (some b6)) 3 (exJ b3) (ex_le b3)  w1 (ex_in (ho.rowSl 1 rfl) (ho.rowSl 2 rfl))).mono fun v L h => ex_CritR h) ?_)
  rintro _ _ ⟨r24, c24, rfl, rfl⟩
  refine gl_op <| op_rd rfl (rd_move rfl) <| gl_op <| op_rd rfl (rd_extract rfl rfl) <| gl_op <| op_rd rfl (rd_extract rfl rfl) <| gl_op <| op_rd rfl (rd_extract rfl rfl) <| gl_op <| op_rd rfl (rd_assign rfl) <| gl_op <| op_rd rfl (rd_assign rfl) <| gl_op <| op_rd rfl (rd_assign rfl) <| gl_nil <| gx_then <| gc_seq <| gc_region <| gl_op (op_buildSlice (sz := 1) rfl rfl (fun _ => bs_29_2_0_1 _ _) rfl rfl (fun b29 => ?_))
  refine gl_op <| op_rd rfl (rd_move rfl) <| gl_op (op_buildSlice (sz := 1) rfl rfl (fun _ => bs_25_3_0_1_2 _ _ _) rfl rfl (fun b31 => ?_))
  refine gl_op (op_call rfl (vf := []) (vc := []) rfl rfl Try.call18 (fun w1 ho => by
    have h9 := Fits_ok (rowA (some b6)) 3 (exJ b3) (ex_le b3) (rowA (some b29)) 2 [1, 1] (by decide) (rowA (some b31)) 3 [0, 24, 15] (by decide) w1 (ex_in (ho.rowSl 4 rfl) (ho.rowSl 5 rfl)) (ho.rowSl 1 rfl) (ho.rowSl 0 rfl)
    rw [ex_fits] at h9
    exact h9) ?_)
  rintro _ _ ⟨rfl, rfl⟩
  refine gl_op <| op_rd rfl (rd_move rfl) <| gl_op <| op_rd rfl (rd_extract rfl rfl) <| gl_op <| op_rd rfl (rd_extract rfl rfl) <| gl_op <| op_rd rfl (rd_extract rfl rfl) <| gl_op <| op_rd rfl (rd_assign rfl) <| gl_op <| op_rd rfl (rd_assign rfl) <| gl_op <| op_rd rfl (rd_assign rfl) <| gl_nil <| gx_then <| gc_seq <| gc_region <| gl_op (op_buildSlice (sz := 1) rfl rfl (fun _ => bs_29_2_0_1 _ _) rfl rfl (fun b37 => ?_))
  refine gl_op <| op_rd rfl (rd_move rfl) <| gl_op (op_call rfl (vf := []) (vc := []) rfl rfl Try.call20 (fun w1 ho => (Plan_ok (rowA (some b6)) 3 (exJ b3) (ex_le b3) (rowA (some b37)) 2 [1, 1] (by decide) w1 (ex_in (ho.rowSl 5 rfl) (ho.rowSl 6 rfl)) (ho.rowSl 0 rfl)).mono fun v L h => ex_PlanR h) ?_)
  rintro _ _ ⟨r39, c39, rfl, rfl⟩
  refine gl_op <| op_rd rfl (rd_move rfl) <| gl_op <| op_rd rfl (rd_extract rfl rfl) <| gl_op <| op_rd rfl (rd_extract rfl rfl) <| gl_op <| op_rd rfl (rd_extract rfl rfl) <| gl_op <| op_rd rfl (rd_assign rfl) <| gl_op <| op_rd rfl (rd_assign rfl) <| gl_op <| op_rd rfl (rd_assign rfl) <| gl_nil <| gx_then <| gc_seq <| gc_region <| gl_op (op_buildSlice (sz := 1) rfl rfl (fun _ => bs_29_1_0 _) rfl rfl (fun b44 => ?_))
  refine gl_op <| op_rd rfl (rd_move rfl) <| gl_op (op_call rfl (vf := []) (vc := []) rfl rfl Try.call20 (fun w1 ho => (Plan_ok (rowA (some b6)) 3 (exJ b3) (ex_le b3) (rowA (some b44)) 1 [1] (by decide) w1 (ex_in (ho.rowSl 7 rfl) (ho.rowSl 8 rfl)) (ho.rowSl 0 rfl)).mono fun v L h => ex_PlanR1 h) ?_)
  rintro _ _ ⟨rfl, rfl⟩
  refine gl_op <| op_rd rfl (rd_move rfl) <| gl_op <| op_rd rfl (rd_extract rfl rfl) <| gl_op <| op_rd rfl (rd_extract rfl rfl) <| gl_op <| op_rd rfl (rd_extract rfl rfl) <| gl_op <| op_rd rfl (rd_assign rfl) <| gl_op <| op_rd rfl (rd_assign rfl) <| gl_op <| op_rd rfl (rd_assign rfl) <| gl_nil <| gx_then <| gc_seq <| gc_seq <| gc_region <| gl_op <| op_rd rfl (rd_move rfl) <| gl_op (op_rd rfl (rd_neq rfl rfl) (gk_dec (fun hd1 => ?_) (fun hd1 => ?_)))
  · exfalso; omega
  refine gl_op <| op_rd rfl (rd_move rfl) <| gl_yes rfl rfl <| op_rd rfl (rd_move rfl) <| gl_yes rfl rfl (op_rd rfl (rd_neq rfl rfl) (gk_dec (fun hd2 => ?_) (fun hd2 => ?_)))
  · exfalso; omega
  refine gl_op <| op_rd rfl (rd_pick_f rfl rfl) <| gl_op <| op_rd rfl (rd_move rfl) <| gl_yes rfl rfl <| op_rd rfl (rd_move rfl) <| gl_yes rfl rfl (op_rd rfl (rd_neq rfl rfl) (gk_dec (fun hd3 => ?_) (fun hd3 => ?_)))
  · exfalso; omega
  refine gl_op <| op_rd rfl (rd_pick_f rfl rfl) <| gl_op <| op_rd rfl (rd_move rfl) <| gl_yes rfl rfl <| op_rd rfl (rd_move rfl) <| gl_yes rfl rfl (op_rd rfl (rd_neq rfl rfl) (gk_dec (fun hd4 => ?_) (fun hd4 => ?_)))
  · exfalso; omega
  refine gl_op <| op_rd rfl (rd_pick_f rfl rfl) <| gl_op <| op_rd rfl (rd_move rfl) <| gl_yes rfl rfl <| op_rd rfl (rd_move rfl) <| gl_yes rfl rfl (op_rd rfl (rd_neq rfl rfl) (gk_dec (fun hd5 => ?_) (fun hd5 => ?_)))
  · exfalso; omega
  refine gl_op <| op_rd rfl (rd_pick_f rfl rfl) <| gl_op <| op_rd rfl (rd_move rfl) <| gl_yes rfl rfl <| op_rd rfl (rd_move rfl) <| gl_op <| op_rd rfl (rd_pick_f rfl rfl) <| gl_op <| op_rd rfl (rd_move rfl) <| gl_yes rfl rfl <| op_rd rfl (rd_move rfl) <| gl_yes rfl rfl (op_rd rfl (rd_neq rfl rfl) (gk_dec (fun hd6 => ?_) (fun hd6 => ?_)))
  · exfalso; omega
  refine gl_op <| op_rd rfl (rd_pick_f rfl rfl) <| gl_op <| op_rd rfl (rd_move rfl) <| gl_yes rfl rfl <| op_rd rfl (rd_move rfl) <| gl_yes rfl rfl (op_rd rfl (rd_neq rfl rfl) (gk_dec (fun hd7 => ?_) (fun hd7 => ?_)))
  · exfalso; omega
  refine gl_op <| op_rd rfl (rd_pick_f rfl rfl) <| gl_op <| op_rd rfl (rd_move rfl) <| gl_yes rfl rfl <| op_rd rfl (rd_move rfl) <| gl_yes rfl rfl (op_rd rfl (rd_neq rfl rfl) (gk_dec (fun hd8 => ?_) (fun hd8 => ?_)))
  · exfalso; omega
  refine gl_op <| op_rd rfl (rd_pick_f rfl rfl) <| gl_nil <| gx_then <| gc_cond_f rfl <| gc_skip <| gx_then <| gc_seq <| gc_region <| gl_op <| op_rd rfl (rd_move rfl) <| gl_op (op_buildSlice (sz := 1) rfl rfl (fun _ => bs_25_3_0_1_2 _ _ _) rfl rfl (fun b84 => ?_))
  refine gl_op (op_call rfl (vf := []) (vc := []) rfl rfl Try.call16 (fun w1 ho => SameHours_ok (rowA (some b19)) 3 (rowA (some b84)) 3 [0, 24, 0] (by decide) w1 (ho.rowSl 7 rfl) (ho.rowSl 0 rfl)) ?_)
  rintro _ _ ⟨rfl, rfl⟩
  refine gl_op <| op_rd rfl (rd_move rfl) <| gl_yes rfl rfl <| op_rd rfl (rd_move rfl) <| gl_yes rfl rfl (op_buildSlice (sz := 1) rfl rfl (fun _ => bs_29_2_0_1 _ _) rfl rfl (fun b88 => ?_))
  refine gl_yes rfl rfl (op_call rfl (vf := []) (vc := []) rfl rfl Try.call17 (fun w1 ho => SameInts_ok (rowA r24) c24 (rowA (some b88)) 2 [0, 1] (by decide) w1 (ho.rowSl 7 rfl) (ho.rowSl 0 rfl)) ?_)
  rintro _ _ ⟨rfl, rfl⟩
  refine gl_op <| op_rd rfl (rd_pick_t rfl rfl) <| gl_op <| op_rd rfl (rd_move rfl) <| gl_yes rfl rfl <| op_rd rfl (rd_move rfl) <| gl_yes rfl rfl (op_buildSlice (sz := 1) rfl rfl (fun _ => bs_25_3_0_1_2 _ _ _) rfl rfl (fun b93 => ?_))
  refine gl_yes rfl rfl (op_call rfl (vf := []) (vc := []) rfl rfl Try.call16 (fun w1 ho => SameHours_ok (rowA r39) c39 (rowA (some b93)) 3 [0, 24, 0] (by decide) w1 (ho.rowSl 4 rfl) (ho.rowSl 0 rfl)) ?_)
  rintro _ _ ⟨rfl, rfl⟩
  refine gl_op <| op_rd rfl (rd_pick_t rfl rfl) <| gl_op <| op_rd rfl (rd_assign rfl) <| gl_nil <| gx_then <| gc_ret <| gx_ret1 (.inl rfl) Try.results9 rfl [] (by decide) ?_
  exact ⟨rfl, rfl⟩
end Go.Proofs.Ytafmcflggikbfaa
namespace Go.Proofs.Ytafmcflggikbfaa
open Go.Gv
open Go.RowKit
open Go.Sn
open Go.Wk
open Sx
namespace Sx
def earlS (l : List JI) : List Int := if checkE l = 0 then castL (earlC (nOf l)) else []
def critS (l : List JI) : List Int := if checkE l = 0 then castL (critC (nOf l)) else []
def endS (l : List JI) : Int := if checkE l = 0 then (endC (nOf l) : Int) else 0
def planG (shop : List Int) (l : List JI) : List Nat := (planO shop (nOf l)).getD []
def planS (shop : List Int) (l : List JI) : List Int := if planE shop l = 0 then castL (planG shop l) else []
def planT (shop : List Int) (l : List JI) : Int := if planE shop l = 0 then (endF (nOf l) (planG shop l) : Int) else 0
def EarlS (t : TypeId) (l : List JI) (v : Value) (L : List HL) : Prop := ∃ r c, v = .tuple #[.slice (rowA r) (earlS l).length c, .int .i64 (checkE l)] ∧ L = [.row t 1 r (earlS l).length c ((earlS l).map intV)]
def CritS (t : TypeId) (l : List JI) (v : Value) (L : List HL) : Prop := ∃ r c, v = .tuple #[.slice (rowA r) (critS l).length c, .int .i64 (endS l), .int .i64 (checkE l)] ∧ L = [.row t 1 r (critS l).length c ((critS l).map intV)]
def PlanS (t : TypeId) (shop : List Int) (l : List JI) (v : Value) (L : List HL) : Prop := ∃ r c, v = .tuple #[.slice (rowA r) (planS shop l).length c, .int .i64 (planT shop l), .int .i64 (planE shop l)] ∧ L = [.row t 1 r (planS shop l).length c ((planS shop l).map intV)]
theorem cast_int (g : List Nat) : (castL g).map intV = g.map natV := by unfold castL; rw [List.map_map]; rfl
theorem EarlR.s {t : TypeId} {l : List JI} {v : Value} {L : List HL} (h : EarlR t l v L) : EarlS t l v L ∨ ∃ t' sz, EarlS t l v (.row t' sz none 0 0 [] :: L) := by
  rcases h with ⟨h, hv, hL⟩ | ⟨h, b, hv, hL⟩
  · refine .inr ⟨t, 1, none, 0, ?_, ?_⟩
    · rw [hv]; unfold earlS; rw [if_neg h]; rfl
    · rw [hL]; unfold earlS; rw [if_neg h]; rfl
  · refine .inl ⟨some b, (nOf l).length, ?_, ?_⟩
    · rw [hv]; unfold earlS; rw [if_pos h, castL_len, earlC_len, h]
    · rw [hL]; unfold earlS; rw [if_pos h, castL_len, earlC_len, cast_int]
theorem CritR.s {t : TypeId} {l : List JI} {v : Value} {L : List HL} (h : CritR t l v L) : CritS t l v L ∨ ∃ t' sz, CritS t l v (.row t' sz none 0 0 [] :: L) := by
  rcases h with ⟨h, hv, hL⟩ | ⟨h, r, c, hv, hL⟩
  · refine .inr ⟨t, 1, none, 0, ?_, ?_⟩
    · rw [hv]; unfold critS endS; rw [if_neg h, if_neg h]; rfl
    · rw [hL]; unfold critS; rw [if_neg h]; rfl
  · refine .inl ⟨r, c, ?_, ?_⟩
    · rw [hv]; unfold critS endS; rw [if_pos h, if_pos h, castL_len, h]; done
    · rw [hL]; unfold critS; rw [if_pos h, castL_len, cast_int]
theorem PlanR.s {t : TypeId} {shop : List Int} {l : List JI} {v : Value} {L : List HL} (h : PlanR t shop l v L) : PlanS t shop l v L ∨ ∃ t' sz, PlanS t shop l v (.row t' sz none 0 0 [] :: L) := by
  rcases h with ⟨h, hv, hL⟩ | ⟨h, g, r, c, hg, hv, hL⟩
  · refine .inr ⟨t, 1, none, 0, ?_, ?_⟩
    · rw [hv]; unfold planS planT; rw [if_neg h, if_neg h]; rfl
    · rw [hL]; unfold planS; rw [if_neg h]; rfl
  · refine .inl ⟨r, c, ?_, ?_⟩
    · rw [hv]; unfold planS planT planG; rw [if_pos h, if_pos h, hg, castL_len, h]; rfl
    · rw [hL]; unfold planS planG; rw [if_pos h, hg, castL_len, cast_int]; rfl
theorem n_le {l : List JI} (h : checkE l = 0) : (nOf l).length ≤ 40 := by
  obtain ⟨n, rfl, hg, hn⟩ := goodJ_of h
  rw [hn]; exact hg.ok.n
theorem planE_in {shop : List Int} {l : List JI} (h : planE shop l = 0) : checkE l = 0 ∧ l.length ≤ 7 ∧ shopB shop = true ∧ benS shop (nOf l) = false := by
  unfold planE at h
  split at h
  · rename_i h1; exact absurd h h1
  · rename_i h1
    split at h
    · cases h
    · split at h
      · cases h
      · split at h
        · cases h
        · rename_i h2 h3 h4
          exact ⟨Classical.byContradiction fun e => h1 e, by omega, by simpa using h3, by simpa using h4⟩
theorem planG_is {shop : List Int} {l : List JI} (h : planE shop l = 0) : planO shop (nOf l) = some (planG shop l) := by
  obtain ⟨n, rfl, hg, hn⟩ := goodJ_of (planE_in h).1
  obtain ⟨b, hb, _⟩ := plan_some (shop := shop) hg
  unfold planG
  rw [hn, hb]; rfl
theorem planG_len {shop : List Int} {l : List JI} (h : planE shop l = 0) : (planG shop l).length = (nOf l).length := by
  obtain ⟨n, rfl, hg, hn⟩ := goodJ_of (planE_in h).1
  have h9 := planG_is h
  obtain ⟨b, hb, hm⟩ := plan_some (shop := shop) hg
  rw [hn] at h9 ⊢
  rw [hb] at h9
  rw [← Option.some.inj h9]
  exact (leaf_keep hg.ok _ _ PlOk.start b hm).1
theorem planS_le (shop : List Int) (l : List JI) : (planS shop l).length ≤ 140737488355328 := by
  unfold planS
  split
  · rename_i h; have := n_le (planE_in h).1; rw [castL_len, planG_len h]; omega
  · simp
end Sx
open Sx
set_option maxRecDepth 100000 in
set_option maxHeartbeats 1000000 in
theorem law5_ok (a : Option Addr) (c : Nat) (l : List JI) (hle : JsLe l)  (sa : Option Addr) (sc : Nat) (shop : List Int) (hsl : shop.length ≤ 140737488355328) (w0 : World) (hJ : JsIn a l w0 []) (hS : OldSl w0 [] sa shop.length 1 (shop.map intV)) : Sp Try.prog 5 [.slice sa shop.length sc, .slice a l.length c] w0 [] (RV (.bool true)) := by
  refine spec_enter Try.func5 rfl Try.ntmps5 rfl (Own.refl _) ?_
  simp only [argEnv]
  refine gc_seq <| gc_region <| gl_op <| op_rd rfl (rd_assign rfl) <| gl_nil <| gx_then <| gc_seq <| gc_seq <| gc_region <| gl_op <| op_rd rfl (rd_move rfl) <| gl_op (op_call rfl (vf := []) (vc := []) rfl rfl Try.call8 (fun w1 ho => far_ok a c l hle w1 (hJ.at ho)) ?_)
  rintro _ _ ⟨rfl, rfl⟩
  refine gk_bool (fun hf => ?_) (fun hf => ?_)
  · refine gl_nil <| gx_then <| gc_cond_t rfl <| gc_seq <| gc_region <| gl_op (op_call rfl (vf := []) (vc := []) rfl rfl Try.call9 (fun w1 ho => shown_ok w1) ?_)
    rintro _ _ ⟨rfl, rfl⟩
    refine gl_op <| op_rd rfl (rd_assign rfl) <| gl_nil <| gx_then <| gc_ret <| gx_then_ret <| gx_ret1 (.inl rfl) Try.results5 rfl [] (by decide) ?_
    exact ⟨rfl, rfl⟩
  refine gl_nil <| gx_then <| gc_cond_f rfl <| gc_skip <| gx_then <| gc_seq <| gc_region <| gl_op <| op_rd rfl (rd_move rfl) <| gl_op <| op_rd rfl (rd_move rfl) <| gl_op (op_call rfl (vf := []) (vc := []) rfl rfl Try.call20 (fun w1 ho => (Plan_ok a c l hle sa sc shop hsl w1 (hJ.at ho) (hS.at ho)).nils fun v L h => PlanR.s h) ?_)
  rintro _ _ ⟨r17, c17, rfl, rfl⟩
  refine gl_op <| op_rd rfl (rd_move rfl) <| gl_op <| op_rd rfl (rd_extract rfl rfl) <| gl_op <| op_rd rfl (rd_extract rfl rfl) <| gl_op <| op_rd rfl (rd_extract rfl rfl) <| gl_op <| op_rd rfl (rd_assign rfl) <| gl_op <| op_rd rfl (rd_assign rfl) <| gl_op <| op_rd rfl (rd_assign rfl) <| gl_nil <| gx_then <| gc_seq <| gc_region <| gl_op <| op_rd rfl (rd_move rfl) <| gl_op <| op_rd rfl (rd_move rfl) <| gl_op (op_call rfl (vf := []) (vc := []) rfl rfl Try.call21 (fun w1 ho => (rPlan_ok a c l hle sa sc shop hsl w1 (hJ.at ho) (hS.at ho)).nils fun v L h => PlanR.s h) ?_)
  rintro _ _ ⟨r24, c24, rfl, rfl⟩
  refine gl_op <| op_rd rfl (rd_move rfl) <| gl_op <| op_rd rfl (rd_extract rfl rfl) <| gl_op <| op_rd rfl (rd_extract rfl rfl) <| gl_op <| op_rd rfl (rd_extract rfl rfl) <| gl_op <| op_rd rfl (rd_assign rfl) <| gl_op <| op_rd rfl (rd_assign rfl) <| gl_op <| op_rd rfl (rd_assign rfl) <| gl_nil <| gx_then <| gc_seq <| gc_region <| gl_op <| op_rd rfl (rd_move rfl) <| gl_op <| op_rd rfl (rd_move rfl) <| gl_op (op_call rfl (vf := []) (vc := []) rfl rfl Try.call16 (fun w1 ho => SameHours_ok (rowA r17) c17 (rowA r24) c24 (planS shop l) (planS_le shop l) w1 (ho.rowSl 1 rfl) (ho.rowSl 0 rfl)) ?_)
  rintro _ _ ⟨rfl, rfl⟩
  refine gl_op <| op_rd rfl (rd_move rfl) <| gl_yes rfl rfl <| op_rd rfl (rd_move rfl) <| gl_yes rfl rfl <| op_rd rfl (rd_move rfl) <| gl_yes rfl rfl (op_rd rfl (rd_eql rfl rfl) (gk_dec (fun h34 => ?_) (fun h34 => ?_)))
  · refine gl_op <| op_rd rfl (rd_pick_t rfl rfl) <| gl_op <| op_rd rfl (rd_move rfl) <| gl_yes rfl rfl <| op_rd rfl (rd_move rfl) <| gl_yes rfl rfl <| op_rd rfl (rd_move rfl) <| gl_yes rfl rfl (op_rd rfl (rd_eql rfl rfl) (gk_dec (fun h39 => ?_) (fun h39 => ?_)))
    · refine gl_op <| op_rd rfl (rd_pick_t rfl rfl) <| gl_op <| op_rd rfl (rd_move rfl) <| gl_yes rfl rfl (op_call rfl (vf := []) (vc := []) rfl rfl Try.call9 (fun w1 ho => shown_ok w1) ?_)
      rintro _ _ ⟨rfl, rfl⟩
      refine gl_op <| op_rd rfl (rd_pick_t rfl rfl) <| gl_op <| op_rd rfl (rd_assign rfl) <| gl_nil <| gx_then <| gc_ret <| gx_ret1 (.inl rfl) Try.results5 rfl [] (by decide) ?_
      exact ⟨rfl, rfl⟩
    exact absurd rfl h39
  exact absurd rfl h34
end Go.Proofs.Ytafmcflggikbfaa
