import Derived.Test.YteocjpnckciboaaRh
/- This text proves RelaysKnownSaid: RelaysKnown returns true. -/
set_option linter.unusedSimpArgs false
set_option linter.unusedVariables false
set_option linter.unnecessarySimpa false
set_option autoImplicit false
set_option linter.unusedVariables false
namespace Go.Proofs.Yteocjpnckciboaa
open Go.Gv
open Go.RowKit
open Ry
theorem NextC_ok (c : Circ) (st inn : Nat) (ks : List Nat) (w0 : World) (hc : c.In w0 []) (hst : st < 4096) (hin : inn < 256) (hn : c.ready st inn = 0 ∧ nextL c st inn = ks) : Sp Try.prog 19 [c.val, natV st, natV inn] w0 [] (fun v l => ∃ r cp, v = .tuple #[.slice (rowA r) ks.length cp, .int .i64 0] ∧ l = [.row 3 1 r ks.length cp (ks.map natV)]) :=
  Sp.mono (Next_ok c st inn w0 hc (by omega) (by omega)) fun v l h => by
    rcases h with ⟨_, r, cp, h1, h2⟩ | ⟨h1, _⟩
    · simp only [Int.toNat_natCast, hn.2] at h1 h2
      exact ⟨r, cp, h1, h2⟩
    · exact absurd hn.1 h1
theorem SettleC_ok (c : Circ) (st inn s : Nat) (w0 : World) (hc : c.In w0 []) (hst : st < 4096) (hin : inn < 256) (hs : settleR c st inn = (s, 0)) : Sp Try.prog 11 [c.val, natV st, natV inn] w0 [] (RV (.tuple #[natV s, .int .i64 0])) := by
  have h := Settle_ok c st inn w0 hc (by omega) (by omega) (fun im h hg => facts c im h hg)
  rw [hs] at h
  exact h
theorem AcceptC_ok (c : Circ) (st : Nat) (V : Vd) (w0 : World) (hc : c.In w0 []) (hst : st < 4096) (hV : acceptR c st = V) : Sp Try.prog 26 [c.val, natV st] w0 [] (fun v l => ∃ ra ca rb cb, v = .tuple #[.agg #[.bool V.good, natV V.state, natV V.inn, natV V.rc.kind, .slice (rowA ra) V.rc.a.length ca, .slice (rowA rb) V.rc.b.length cb], .int .i64 V.err] ∧ l = [.row 3 1 ra V.rc.a.length ca (V.rc.a.map natV), .row 3 1 rb V.rc.b.length cb (V.rc.b.map natV)]) := by
  have h := Accept_ok c st w0 hc (by omega)
  rw [hV] at h
  exact h
theorem RaceC_ok (c : Circ) (st inn : Nat) (x : Rc) (w0 : World) (hc : c.In w0 []) (hst : st < 4096) (hin : inn < 256) (hx : raceR c st inn = (x, 0)) : Sp Try.prog 17 [c.val, natV st, natV inn] w0 [] (fun v l => ∃ ra ca rb cb, v = .tuple #[.agg #[natV x.kind, .slice (rowA ra) x.a.length ca, .slice (rowA rb) x.b.length cb], .int .i64 0] ∧ l = [.row 3 1 ra x.a.length ca (x.a.map natV), .row 3 1 rb x.b.length cb (x.b.map natV)]) := by
  have h := Race_ok c st inn w0 hc (by omega) (by omega) (fun im h hg => facts c im h hg)
  rw [hx] at h
  exact h
theorem loop_in {b1 b2 : Nat} {w0 w : World} {S : List Nat} {l : List HL} (ho : Own w0 S w l) (i j : Nat) (hi : l[i]? = some (.row 48 2 (some b2) 1 1 [intV 3, .slice (pa b1) 1 1])) (hj : l[j]? = some (.row 3 1 (some b1) 1 1 [intV 0])) : (loopC b1 b2).In w [] := by
  refine ⟨ho.rowSl i hi, ?_, ⟨rfl, fun h => absurd h (by simp [loopC]), fun j v hv => by simp [loopC] at hv, fun h => absurd h (by simp [loopC])⟩, by simp [loopC], ?_, by simp [loopC]⟩
  · intro g hg
    simp only [loopC, List.mem_cons, List.not_mem_nil, or_false] at hg
    subst hg
    exact ho.rowSl j hj
  · intro g hg
    simp only [loopC, List.mem_cons, List.not_mem_nil, or_false] at hg
    subst hg; simp
theorem hold_in {b1 b2 b3 : Nat} {w0 w : World} {S : List Nat} {l : List HL} (ho : Own w0 S w l) (i j k : Nat) (hi : l[i]? = some (.row 48 2 (some b2) 1 1 [intV 7, .slice (pa b1) 2 2])) (hj : l[j]? = some (.row 3 1 (some b1) 2 2 [intV 0, intV 1])) (hk : l[k]? = some (.row 3 1 (some b3) 1 1 [intV 2])) : (holdC b1 b2 b3).In w [] := by
  refine ⟨ho.rowSl i hi, ?_, ho.rowSl k hk, by simp [holdC], ?_, by simp [holdC]⟩
  · intro g hg
    simp only [holdC, List.mem_cons, List.not_mem_nil, or_false] at hg
    subst hg
    exact ho.rowSl j hj
  · intro g hg
    simp only [holdC, List.mem_cons, List.not_mem_nil, or_false] at hg
    subst hg; simp
def hS : List Nat := [0, 1, 1, 0]
def hI : List Nat := [1, 0, 2, 3]
def hW : List Nat := [1, 1, 0, 1]
theorem hold_all (b1 b2 b3 k : Nat) (hk : k < 4) : settleR (holdC b1 b2 b3) (hS.getD k 0 : Nat) (hI.getD k 0 : Nat) = (hW.getD k 0, 0) ∧ hS.getD k 0 < 2 ∧ hI.getD k 0 < 4 := by
  obtain ⟨h1, h2, h3, h4⟩ := hold_s b1 b2 b3
  match k, hk with
  | 0, _ => exact ⟨h1, by decide, by decide⟩
  | 1, _ => exact ⟨h2, by decide, by decide⟩
  | 2, _ => exact ⟨h3, by decide, by decide⟩
  | 3, _ => exact ⟨h4, by decide, by decide⟩

set_option maxRecDepth 100000 in
set_option maxHeartbeats 1000000 in
theorem RelaysKnown_ok (w0 : World) : Sp Try.prog 7 [] w0 [] (RV (.bool true)) := by
  refine spec_enter Try.func7 rfl Try.ntmps7 rfl (Own.refl _) ?_
  simp only [argEnv]
  refine gc_seq ?_
  refine gc_region ?_
  refine gl_op (op_rd rfl (rd_assign rfl) ?_)
  refine gl_nil ?_
  refine gx_then ?_
  refine gc_seq ?_
  refine gc_region ?_
  refine gl_op (op_call rfl (vf := []) (vc := []) rfl rfl Try.call27 (fun w ho => Latch_ok w) ?_)
  rintro _ _ ⟨b1_1, b3_1, b5_1, b6_1, rfl, rfl⟩
  unfold latchL
  refine gl_op (op_call rfl (vf := []) (vc := []) rfl rfl Try.call19 (fun w ho => NextC_ok (latch b1_1 b3_1 b5_1 b6_1) 0 0 [0, 1] w (latch_in ho [0, 1, 2, 3] (by decide) rfl) (by decide) (by decide) (latch_n0 b1_1 b3_1 b5_1 b6_1)) ?_)
  rintro _ _ ⟨r1, c1, rfl, rfl⟩
  refine gl_op (op_rd rfl (rd_move rfl) ?_)
  refine gl_op (op_rd rfl (rd_extract rfl rfl) ?_)
  refine gl_op (op_rd rfl (rd_extract rfl rfl) ?_)
  refine gl_op (op_rd rfl (rd_assign rfl) ?_)
  refine gl_op (op_rd rfl (rd_assign rfl) ?_)
  refine gl_nil ?_
  refine gx_then ?_
  refine gc_seq ?_
  refine gc_region ?_
  refine gl_op (op_call rfl (vf := []) (vc := []) rfl rfl Try.call27 (fun w ho => Latch_ok w) ?_)
  rintro _ _ ⟨b1_2, b3_2, b5_2, b6_2, rfl, rfl⟩
  unfold latchL
  refine gl_op (op_call rfl (vf := []) (vc := []) rfl rfl Try.call19 (fun w ho => NextC_ok (latch b1_2 b3_2 b5_2 b6_2) 0 3 [] w (latch_in ho [0, 1, 2, 3] (by decide) rfl) (by decide) (by decide) (latch_n3 b1_2 b3_2 b5_2 b6_2)) ?_)
  rintro _ _ ⟨r2, c2, rfl, rfl⟩
  refine gl_op (op_rd rfl (rd_move rfl) ?_)
  refine gl_op (op_rd rfl (rd_extract rfl rfl) ?_)
  refine gl_op (op_rd rfl (rd_extract rfl rfl) ?_)
  refine gl_op (op_rd rfl (rd_assign rfl) ?_)
  refine gl_op (op_rd rfl (rd_assign rfl) ?_)
  refine gl_nil ?_
  refine gx_then ?_
  refine gc_seq ?_
  refine gc_region ?_
  refine gl_op (op_call rfl (vf := []) (vc := []) rfl rfl Try.call27 (fun w ho => Latch_ok w) ?_)
  rintro _ _ ⟨b1_3, b3_3, b5_3, b6_3, rfl, rfl⟩
  unfold latchL
  refine gl_op (op_call rfl (vf := []) (vc := []) rfl rfl Try.call11 (fun w ho => SettleC_ok (latch b1_3 b3_3 b5_3 b6_3) 0 1 1 w (latch_in ho [0, 1, 2, 3] (by decide) rfl) (by decide) (by decide) (latch_s1 b1_3 b3_3 b5_3 b6_3)) ?_)
  rintro _ _ ⟨rfl, rfl⟩
  refine gl_op (op_rd rfl (rd_move rfl) ?_)
  refine gl_op (op_rd rfl (rd_extract rfl rfl) ?_)
  refine gl_op (op_rd rfl (rd_extract rfl rfl) ?_)
  refine gl_op (op_rd rfl (rd_assign rfl) ?_)
  refine gl_op (op_rd rfl (rd_assign rfl) ?_)
  refine gl_nil ?_
  refine gx_then ?_
  refine gc_seq ?_
  refine gc_region ?_
  refine gl_op (op_call rfl (vf := []) (vc := []) rfl rfl Try.call27 (fun w ho => Latch_ok w) ?_)
  rintro _ _ ⟨b1_4, b3_4, b5_4, b6_4, rfl, rfl⟩
  unfold latchL
  refine gl_op (op_call rfl (vf := []) (vc := []) rfl rfl Try.call26 (fun w ho => AcceptC_ok (latch b1_4 b3_4 b5_4 b6_4) 1 ⟨false, 0, 0, ⟨1, [0], [1]⟩, 0⟩ w (latch_in ho [0, 1, 2, 3] (by decide) rfl) (by decide) (latch_acc b1_4 b3_4 b5_4 b6_4)) ?_)
  rintro _ _ ⟨ra, ca, rb, cb, rfl, rfl⟩
  refine gl_op (op_rd rfl (rd_move rfl) ?_)
  refine gl_op (op_rd rfl (rd_extract rfl rfl) ?_)
  refine gl_op (op_rd rfl (rd_extract rfl rfl) ?_)
  refine gl_op (op_alloc ty_50 rfl rfl (fun b7 => ?_))
  refine gl_op (op_storeAgg 0 ty_50 rfl rfl rfl rfl rfl rfl (by first | rfl | (simp only [List.set_cons_succ, List.set_cons_zero]; exact rfl)) ?_)
  refine gl_op (op_rd rfl (rd_assign rfl) ?_)
  refine gl_nil ?_
  refine gx_then ?_
  refine gc_seq ?_
  refine gc_seq ?_
  refine gc_region ?_
  refine gl_op (op_rd rfl (rd_move rfl) ?_)
  refine gl_op (op_rd rfl (rd_neq rfl rfl) (gk_dec (fun h41 => ?_) (fun h41 => ?_)))
  · skip
    exact absurd rfl h41
  · skip
    refine gl_op (op_rd rfl (rd_move rfl) ?_)
    refine gl_yes rfl rfl (op_rd rfl (rd_move rfl) ?_)
    refine gl_yes rfl rfl (op_rd rfl (rd_neq rfl rfl) (gk_dec (fun h44 => ?_) (fun h44 => ?_)))
    · skip
      exact absurd rfl h44
    · skip
      refine gl_op (op_rd rfl (rd_pick_f rfl rfl) ?_)
      refine gl_op (op_rd rfl (rd_move rfl) ?_)
      refine gl_yes rfl rfl (op_rd rfl (rd_move rfl) ?_)
      refine gl_yes rfl rfl (op_rd rfl (rd_neq rfl rfl) (gk_dec (fun h48 => ?_) (fun h48 => ?_)))
      · skip
        exact absurd rfl h48
      · skip
        refine gl_op (op_rd rfl (rd_pick_f rfl rfl) ?_)
        refine gl_op (op_rd rfl (rd_move rfl) ?_)
        refine gl_yes rfl rfl (op_rd rfl (rd_move rfl) ?_)
        refine gl_yes rfl rfl (op_rd rfl (rd_neq rfl rfl) (gk_dec (fun h52 => ?_) (fun h52 => ?_)))
        · skip
          exact absurd rfl h52
        · skip
          refine gl_op (op_rd rfl (rd_pick_f rfl rfl) ?_)
          refine gl_op (op_rd rfl (rd_move rfl) ?_)
          refine gl_yes rfl rfl (op_rd rfl (rd_move rfl) ?_)
          refine gl_yes rfl rfl (op_buildSlice (sz := 1) rfl rfl (fun _ => bs_23_2_0_1 _ _) rfl rfl (fun b56 => ?_))
          refine gl_yes rfl rfl (op_call rfl (vf := []) (vc := []) rfl rfl Try.call25 (fun w ho => sameNats_t [0, 1] [0, 1] (rowA r1) (some ⟨b56, 0, none⟩) c1 2 w (ho.rowSl 17 rfl) (ho.rowSl 0 (r := some b56) rfl) (by decide) rfl) ?_)
          rintro _ _ ⟨rfl, rfl⟩
          refine gl_yes rfl rfl (op_rd rfl (rd_not rfl) ?_)
          refine gl_op (op_rd rfl (rd_pick_f rfl rfl) ?_)
          refine gl_op (op_rd rfl (rd_move rfl) ?_)
          refine gl_yes rfl rfl (op_rd rfl (rd_move rfl) ?_)
          refine gl_yes rfl rfl (op_rd rfl (rd_lenSlice Try.underlying23 rfl) ?_)
          refine gl_yes rfl rfl (op_rd rfl (rd_neq rfl rfl) (gk_dec (fun h63 => ?_) (fun h63 => ?_)))
          · skip
            exact absurd rfl h63
          · skip
            refine gl_op (op_rd rfl (rd_pick_f rfl rfl) ?_)
            refine gl_op (op_rd rfl (rd_move rfl) ?_)
            refine gl_yes rfl rfl (op_rd rfl (rd_move rfl) ?_)
            refine gl_yes rfl rfl (op_rd rfl (rd_neq rfl rfl) (gk_dec (fun h67 => ?_) (fun h67 => ?_)))
            · skip
              exact absurd rfl h67
            · skip
              refine gl_op (op_rd rfl (rd_pick_f rfl rfl) ?_)
              refine gl_op (op_rd rfl (rd_move rfl) ?_)
              refine gl_yes rfl rfl (op_rd rfl (rd_fieldAddr rfl (fa_50_0 _)) ?_)
              refine gl_yes rfl rfl (op_rd rfl (rd_load Try.underlying4 rfl rfl (by first | exact ld_blk 1 rfl rfl | exact ld_rowN 0 rfl (get_bools (by omega)) | exact ld_rowN 2 rfl (get_bools (by omega)) | exact ld_rowN 3 rfl (get_bools (by omega)) | exact ld_rowN 4 rfl (get_bools (by omega)) | exact ld_rowN 5 rfl (get_bools (by omega)) | exact ld_rowN 6 rfl (get_bools (by omega)) | exact ld_rowN 7 rfl (get_bools (by omega)) | exact ld_rowN 8 rfl (get_bools (by omega)) | exact ld_rowN 9 rfl (get_bools (by omega)) | exact ld_rowN 10 rfl (get_bools (by omega)) | exact ld_rowN 11 rfl (get_bools (by omega)) | exact ld_rowN 12 rfl (get_bools (by omega)) | exact ld_rowN 13 rfl (get_bools (by omega)) | exact ld_rowN 14 rfl (get_bools (by omega)) | exact ld_rowN 15 rfl (get_bools (by omega)) | exact ld_rowN 16 rfl (get_bools (by omega)) | exact ld_rowN 17 rfl (get_bools (by omega)) | exact ld_rowN 18 rfl (get_bools (by omega)) | exact ld_rowN 19 rfl (get_bools (by omega)) | exact ld_rowN 20 rfl (get_bools (by omega)) | exact ld_rowN 21 rfl (get_bools (by omega)) | exact ld_slN (by assumption) (get_bools (by omega)) | exact ld_old (by assumption) (by simp) | exact ld_cells (by assumption) (by simp) rfl)) ?_)
              refine gl_op (op_rd rfl (rd_pick_f rfl rfl) ?_)
              refine gl_op (op_rd rfl (rd_move rfl) ?_)
              refine gl_yes rfl rfl (op_rd rfl (rd_fieldAddr rfl (fa_50_1 _)) ?_)
              refine gl_yes rfl rfl (op_rd rfl (rd_load Try.underlying3 rfl rfl (by first | exact ld_blk 1 rfl rfl | exact ld_rowN 0 rfl (get_nats (by omega)) | exact ld_rowN 2 rfl (get_nats (by omega)) | exact ld_rowN 3 rfl (get_nats (by omega)) | exact ld_rowN 4 rfl (get_nats (by omega)) | exact ld_rowN 5 rfl (get_nats (by omega)) | exact ld_rowN 6 rfl (get_nats (by omega)) | exact ld_rowN 7 rfl (get_nats (by omega)) | exact ld_rowN 8 rfl (get_nats (by omega)) | exact ld_rowN 9 rfl (get_nats (by omega)) | exact ld_rowN 10 rfl (get_nats (by omega)) | exact ld_rowN 11 rfl (get_nats (by omega)) | exact ld_rowN 12 rfl (get_nats (by omega)) | exact ld_rowN 13 rfl (get_nats (by omega)) | exact ld_rowN 14 rfl (get_nats (by omega)) | exact ld_rowN 15 rfl (get_nats (by omega)) | exact ld_rowN 16 rfl (get_nats (by omega)) | exact ld_rowN 17 rfl (get_nats (by omega)) | exact ld_rowN 18 rfl (get_nats (by omega)) | exact ld_rowN 19 rfl (get_nats (by omega)) | exact ld_rowN 20 rfl (get_nats (by omega)) | exact ld_rowN 21 rfl (get_nats (by omega)) | exact ld_slN (by assumption) (get_nats (by omega)) | exact ld_rowN 0 rfl (get_ints (by omega)) | exact ld_rowN 2 rfl (get_ints (by omega)) | exact ld_rowN 3 rfl (get_ints (by omega)) | exact ld_rowN 4 rfl (get_ints (by omega)) | exact ld_rowN 5 rfl (get_ints (by omega)) | exact ld_rowN 6 rfl (get_ints (by omega)) | exact ld_rowN 7 rfl (get_ints (by omega)) | exact ld_rowN 8 rfl (get_ints (by omega)) | exact ld_rowN 9 rfl (get_ints (by omega)) | exact ld_rowN 10 rfl (get_ints (by omega)) | exact ld_rowN 11 rfl (get_ints (by omega)) | exact ld_rowN 12 rfl (get_ints (by omega)) | exact ld_rowN 13 rfl (get_ints (by omega)) | exact ld_rowN 14 rfl (get_ints (by omega)) | exact ld_rowN 15 rfl (get_ints (by omega)) | exact ld_rowN 16 rfl (get_ints (by omega)) | exact ld_rowN 17 rfl (get_ints (by omega)) | exact ld_rowN 18 rfl (get_ints (by omega)) | exact ld_rowN 19 rfl (get_ints (by omega)) | exact ld_rowN 20 rfl (get_ints (by omega)) | exact ld_rowN 21 rfl (get_ints (by omega)) | exact ld_slN (by assumption) (get_ints (by omega)) | exact ld_old (by assumption) (by simp) | exact ld_cells (by assumption) (by simp) rfl)) ?_)
              refine gl_yes rfl rfl (op_rd rfl (rd_neq rfl rfl) (gk_dec (fun h76 => ?_) (fun h76 => ?_)))
              · skip
                exact absurd rfl h76
              · skip
                refine gl_op (op_rd rfl (rd_pick_f rfl rfl) ?_)
                refine gl_op (op_rd rfl (rd_move rfl) ?_)
                refine gl_yes rfl rfl (op_rd rfl (rd_fieldAddr rfl (fa_50_2 _)) ?_)
                refine gl_yes rfl rfl (op_rd rfl (rd_load Try.underlying3 rfl rfl (by first | exact ld_blk 1 rfl rfl | exact ld_rowN 0 rfl (get_nats (by omega)) | exact ld_rowN 2 rfl (get_nats (by omega)) | exact ld_rowN 3 rfl (get_nats (by omega)) | exact ld_rowN 4 rfl (get_nats (by omega)) | exact ld_rowN 5 rfl (get_nats (by omega)) | exact ld_rowN 6 rfl (get_nats (by omega)) | exact ld_rowN 7 rfl (get_nats (by omega)) | exact ld_rowN 8 rfl (get_nats (by omega)) | exact ld_rowN 9 rfl (get_nats (by omega)) | exact ld_rowN 10 rfl (get_nats (by omega)) | exact ld_rowN 11 rfl (get_nats (by omega)) | exact ld_rowN 12 rfl (get_nats (by omega)) | exact ld_rowN 13 rfl (get_nats (by omega)) | exact ld_rowN 14 rfl (get_nats (by omega)) | exact ld_rowN 15 rfl (get_nats (by omega)) | exact ld_rowN 16 rfl (get_nats (by omega)) | exact ld_rowN 17 rfl (get_nats (by omega)) | exact ld_rowN 18 rfl (get_nats (by omega)) | exact ld_rowN 19 rfl (get_nats (by omega)) | exact ld_rowN 20 rfl (get_nats (by omega)) | exact ld_rowN 21 rfl (get_nats (by omega)) | exact ld_slN (by assumption) (get_nats (by omega)) | exact ld_rowN 0 rfl (get_ints (by omega)) | exact ld_rowN 2 rfl (get_ints (by omega)) | exact ld_rowN 3 rfl (get_ints (by omega)) | exact ld_rowN 4 rfl (get_ints (by omega)) | exact ld_rowN 5 rfl (get_ints (by omega)) | exact ld_rowN 6 rfl (get_ints (by omega)) | exact ld_rowN 7 rfl (get_ints (by omega)) | exact ld_rowN 8 rfl (get_ints (by omega)) | exact ld_rowN 9 rfl (get_ints (by omega)) | exact ld_rowN 10 rfl (get_ints (by omega)) | exact ld_rowN 11 rfl (get_ints (by omega)) | exact ld_rowN 12 rfl (get_ints (by omega)) | exact ld_rowN 13 rfl (get_ints (by omega)) | exact ld_rowN 14 rfl (get_ints (by omega)) | exact ld_rowN 15 rfl (get_ints (by omega)) | exact ld_rowN 16 rfl (get_ints (by omega)) | exact ld_rowN 17 rfl (get_ints (by omega)) | exact ld_rowN 18 rfl (get_ints (by omega)) | exact ld_rowN 19 rfl (get_ints (by omega)) | exact ld_rowN 20 rfl (get_ints (by omega)) | exact ld_rowN 21 rfl (get_ints (by omega)) | exact ld_slN (by assumption) (get_ints (by omega)) | exact ld_old (by assumption) (by simp) | exact ld_cells (by assumption) (by simp) rfl)) ?_)
                refine gl_yes rfl rfl (op_rd rfl (rd_neq rfl rfl) (gk_dec (fun h81 => ?_) (fun h81 => ?_)))
                · skip
                  exact absurd rfl h81
                · skip
                  refine gl_op (op_rd rfl (rd_pick_f rfl rfl) ?_)
                  refine gl_op (op_rd rfl (rd_move rfl) ?_)
                  refine gl_yes rfl rfl (op_rd rfl (rd_fieldAddr rfl (fa_50_3 _)) ?_)
                  refine gl_yes rfl rfl (op_rd rfl (rd_loadAgg Try.underlying40 rfl ty_40 rfl (cs_blk 1 (off := 3) (k := 3) rfl rfl) rfl) ?_)
                  refine gl_yes rfl rfl (op_buildSlice (sz := 1) rfl rfl (fun _ => bs_23_1_0 _) rfl rfl (fun b86 => ?_))
                  refine gl_yes rfl rfl (op_buildSlice (sz := 1) rfl rfl (fun _ => bs_23_1_0 _) rfl rfl (fun b87 => ?_))
                  refine gl_yes rfl rfl (op_rd rfl (rd_build rfl (fun _ => bd_40_0_1_2 _ _ _ _ _ _ _)) ?_)
                  refine gl_yes rfl rfl (op_call rfl (vf := []) (vc := []) rfl rfl Try.call28 (fun w ho => sameRace_t ⟨1, [0], [1]⟩ (rowA ra) (rowA rb) (some ⟨b86, 0, none⟩) (some ⟨b87, 0, none⟩) ca cb 1 1 w (ho.rowSl 4 rfl) (ho.rowSl 5 rfl) (ho.rowSl 1 (r := some b86) rfl) (ho.rowSl 0 (r := some b87) rfl) (by decide) (by decide)) ?_)
                  rintro _ _ ⟨rfl, rfl⟩
                  refine gl_yes rfl rfl (op_rd rfl (rd_not rfl) ?_)
                  refine gl_op (op_rd rfl (rd_pick_f rfl rfl) ?_)
                  refine gl_nil ?_
                  refine gx_then ?_
                  refine gc_cond_f rfl ?_
                  refine gc_skip ?_
                  refine gx_then ?_
                  refine gc_seq ?_
                  refine gc_region ?_
                  refine gl_op (op_buildSlice (sz := 1) rfl rfl (fun _ => bs_23_1_0 _) rfl rfl (fun b92 => ?_))
                  refine gl_op (op_rd rfl (rd_build rfl (fun _ => bd_48_0_1 _ _ _ _)) ?_)
                  refine gl_op (op_buildSlice (sz := 2) rfl rfl (fun _ => bs_22_1_0 _ _ _ _) rfl rfl (fun b94 => ?_))
                  refine gl_op (op_rd rfl (rd_build rfl (fun _ => bd_25_1 _ _ _)) ?_)
                  refine gl_op (op_alloc ty_25 rfl rfl (fun b9 => ?_))
                  first | refine gl_op (op_storeAgg 0 ty_25 rfl rfl rfl rfl rfl rfl (by first | rfl | (simp only [List.set_cons_succ, List.set_cons_zero]; exact rfl)) ?_) | refine gl_op (op_storeAgg 6 ty_25 rfl rfl rfl rfl rfl rfl (by first | rfl | (simp only [List.set_cons_succ, List.set_cons_zero]; exact rfl)) ?_)
                  refine gl_nil ?_
                  refine gx_then ?_
                  refine gc_seq ?_
                  refine gc_region ?_
                  refine gl_op (op_rd rfl (rd_loadAgg Try.underlying25 rfl ty_25 rfl (by first | exact cs_blk 0 (off := 0) (k := 3) rfl rfl | exact cs_blk 6 (off := 0) (k := 3) rfl rfl | exact cs_old (by assumption) (by simp)) rfl) ?_)
                  refine gl_op (op_call rfl (vf := []) (vc := []) rfl rfl Try.call17 (fun w ho => RaceC_ok (loopC b92 b94) 0 0 ⟨2, [], [0, 0]⟩ w (loop_in ho 1 2 rfl rfl) (by decide) (by decide) (loop_race b92 b94)) ?_)
                  rintro _ _ ⟨rc, cc, rd, cd, rfl, rfl⟩
                  refine gl_op (op_rd rfl (rd_move rfl) ?_)
                  refine gl_op (op_rd rfl (rd_extract rfl rfl) ?_)
                  refine gl_op (op_rd rfl (rd_extract rfl rfl) ?_)
                  refine gl_op (op_alloc ty_40 rfl rfl (fun b10 => ?_))
                  first | refine gl_op (op_storeAgg 0 ty_40 rfl rfl rfl rfl rfl rfl (by first | rfl | (simp only [List.set_cons_succ, List.set_cons_zero]; exact rfl)) ?_) | refine gl_op (op_storeAgg 3 ty_40 rfl rfl rfl rfl rfl rfl (by first | rfl | (simp only [List.set_cons_succ, List.set_cons_zero]; exact rfl)) ?_) | refine gl_op (op_storeAgg 9 ty_40 rfl rfl rfl rfl rfl rfl (by first | rfl | (simp only [List.set_cons_succ, List.set_cons_zero]; exact rfl)) ?_)
                  refine gl_op (op_rd rfl (rd_assign rfl) ?_)
                  refine gl_nil ?_
                  refine gx_then ?_
                  refine gc_seq ?_
                  refine gc_region ?_
                  refine gl_op (op_call rfl (vf := []) (vc := []) rfl rfl Try.call29 (fun w ho => Chooser_ok w) ?_)
                  rintro _ _ ⟨b1, b3, b5, b7, b9c, b10c, rfl, rfl⟩
                  unfold chooserL
                  refine gl_op (op_call rfl (vf := []) (vc := []) rfl rfl Try.call11 (fun w ho => SettleC_ok (chooser b1 b3 b5 b7 b9c b10c) 12 6 11 w (chooser_in ho [0, 1, 2, 3, 4, 5] (by decide) rfl) (by decide) (by decide) (chooser_s b1 b3 b5 b7 b9c b10c)) ?_)
                  rintro _ _ ⟨rfl, rfl⟩
                  refine gl_op (op_rd rfl (rd_move rfl) ?_)
                  refine gl_op (op_rd rfl (rd_extract rfl rfl) ?_)
                  refine gl_op (op_rd rfl (rd_extract rfl rfl) ?_)
                  refine gl_op (op_rd rfl (rd_assign rfl) ?_)
                  refine gl_op (op_rd rfl (rd_assign rfl) ?_)
                  refine gl_nil ?_
                  refine gx_then ?_
                  refine gc_seq ?_
                  refine gc_seq ?_
                  refine gc_region ?_
                  refine gl_op (op_rd rfl (rd_move rfl) ?_)
                  refine gl_op (op_rd rfl (rd_neq rfl rfl) (gk_dec (fun h107 => ?_) (fun h107 => ?_)))
                  · skip
                    exact absurd rfl h107
                  · skip
                    refine gl_op (op_rd rfl (rd_move rfl) ?_)
                    refine gl_yes rfl rfl (op_rd rfl (rd_move rfl) ?_)
                    refine gl_yes rfl rfl (op_rd rfl (rd_neq rfl rfl) (gk_dec (fun h110 => ?_) (fun h110 => ?_)))
                    · skip
                      exact absurd rfl h110
                    · skip
                      refine gl_op (op_rd rfl (rd_pick_f rfl rfl) ?_)
                      refine gl_op (op_rd rfl (rd_move rfl) ?_)
                      refine gl_yes rfl rfl (op_rd rfl (rd_move rfl) ?_)
                      refine gl_yes rfl rfl (op_rd rfl (rd_neq rfl rfl) (gk_dec (fun h114 => ?_) (fun h114 => ?_)))
                      · skip
                        exact absurd rfl h114
                      · skip
                        refine gl_op (op_rd rfl (rd_pick_f rfl rfl) ?_)
                        refine gl_op (op_rd rfl (rd_move rfl) ?_)
                        refine gl_yes rfl rfl (op_rd rfl (rd_loadAgg Try.underlying40 rfl ty_40 rfl (by first | exact cs_blk 0 (off := 0) (k := 3) rfl rfl | exact cs_blk 1 (off := 0) (k := 3) rfl rfl | exact cs_blk 2 (off := 0) (k := 3) rfl rfl | exact cs_blk 3 (off := 0) (k := 3) rfl rfl | exact cs_blk 4 (off := 0) (k := 3) rfl rfl | exact cs_blk 5 (off := 0) (k := 3) rfl rfl | exact cs_blk 6 (off := 0) (k := 3) rfl rfl | exact cs_blk 9 (off := 0) (k := 3) rfl rfl | exact cs_blk 15 (off := 0) (k := 3) rfl rfl | exact cs_old (by assumption) (by simp)) rfl) ?_)
                        refine gl_yes rfl rfl (op_buildSlice (sz := 1) rfl rfl (fun _ => bs_23_2_0_1 _ _) rfl rfl (fun b118 => ?_))
                        refine gl_yes rfl rfl (op_rd rfl (rd_build rfl (fun _ => bd_40_0_2 _ _ _ _)) ?_)
                        refine gk_nil 3 1 ?_
                        refine gl_yes rfl rfl (op_call rfl (vf := []) (vc := []) rfl rfl Try.call28 (fun w ho => sameRace_t ⟨2, [], [0, 0]⟩ (rowA rc) (rowA rd) none (some ⟨b118, 0, none⟩) cc cd 0 2 w (ho.rowSl 9 rfl) (ho.rowSl 10 rfl) (ho.rowSl 0 (r := none) rfl) (ho.rowSl 1 (r := some b118) rfl) (by decide) (by decide)) ?_)
                        rintro _ _ ⟨rfl, rfl⟩
                        refine gl_yes rfl rfl (op_rd rfl (rd_not rfl) ?_)
                        refine gl_op (op_rd rfl (rd_pick_f rfl rfl) ?_)
                        refine gl_nil ?_
                        refine gx_then ?_
                        refine gc_cond_f rfl ?_
                        refine gc_skip ?_
                        refine gx_then ?_
                        refine gc_seq ?_
                        refine gc_region ?_
                        refine gl_op (op_buildSlice (sz := 1) rfl rfl (fun _ => bs_23_2_0_1 _ _) rfl rfl (fun b123 => ?_))
                        refine gl_op (op_rd rfl (rd_build rfl (fun _ => bd_48_0_1 _ _ _ _)) ?_)
                        refine gl_op (op_buildSlice (sz := 2) rfl rfl (fun _ => bs_22_1_0 _ _ _ _) rfl rfl (fun b125 => ?_))
                        refine gl_op (op_buildSlice (sz := 1) rfl rfl (fun _ => bs_23_1_0 _) rfl rfl (fun b126 => ?_))
                        refine gl_op (op_rd rfl (rd_build rfl (fun _ => bd_25_0_1_2 _ _ _ _ _ _ _)) ?_)
                        refine gl_op (op_alloc ty_25 rfl rfl (fun b12 => ?_))
                        first | refine gl_op (op_storeAgg 0 ty_25 rfl rfl rfl rfl rfl rfl (by first | rfl | (simp only [List.set_cons_succ, List.set_cons_zero]; exact rfl)) ?_) | refine gl_op (op_storeAgg 6 ty_25 rfl rfl rfl rfl rfl rfl (by first | rfl | (simp only [List.set_cons_succ, List.set_cons_zero]; exact rfl)) ?_) | refine gl_op (op_storeAgg 7 ty_25 rfl rfl rfl rfl rfl rfl (by first | rfl | (simp only [List.set_cons_succ, List.set_cons_zero]; exact rfl)) ?_) | refine gl_op (op_storeAgg 8 ty_25 rfl rfl rfl rfl rfl rfl (by first | rfl | (simp only [List.set_cons_succ, List.set_cons_zero]; exact rfl)) ?_) | refine gl_op (op_storeAgg 9 ty_25 rfl rfl rfl rfl rfl rfl (by first | rfl | (simp only [List.set_cons_succ, List.set_cons_zero]; exact rfl)) ?_) | refine gl_op (op_storeAgg 10 ty_25 rfl rfl rfl rfl rfl rfl (by first | rfl | (simp only [List.set_cons_succ, List.set_cons_zero]; exact rfl)) ?_) | refine gl_op (op_storeAgg 11 ty_25 rfl rfl rfl rfl rfl rfl (by first | rfl | (simp only [List.set_cons_succ, List.set_cons_zero]; exact rfl)) ?_) | refine gl_op (op_storeAgg 12 ty_25 rfl rfl rfl rfl rfl rfl (by first | rfl | (simp only [List.set_cons_succ, List.set_cons_zero]; exact rfl)) ?_) | refine gl_op (op_storeAgg 15 ty_25 rfl rfl rfl rfl rfl rfl (by first | rfl | (simp only [List.set_cons_succ, List.set_cons_zero]; exact rfl)) ?_) | refine gl_op (op_storeAgg 21 ty_25 rfl rfl rfl rfl rfl rfl (by first | rfl | (simp only [List.set_cons_succ, List.set_cons_zero]; exact rfl)) ?_)
                        refine gl_nil ?_
                        refine gx_then ?_
                        refine gc_seq ?_
                        refine gc_region ?_
                        refine gl_op (op_buildSlice (sz := 1) rfl rfl (fun _ => bs_23_4_0_1_2_3 _ _ _ _) rfl rfl (fun b128 => ?_))
                        refine gl_op (op_buildSlice (sz := 1) rfl rfl (fun _ => bs_23_4_0_1_2_3 _ _ _ _) rfl rfl (fun b129 => ?_))
                        refine gl_op (op_buildSlice (sz := 1) rfl rfl (fun _ => bs_23_4_0_1_2_3 _ _ _ _) rfl rfl (fun b130 => ?_))
                        refine gl_op (op_rd rfl (rd_assign rfl) ?_)
                        refine gl_op (op_rd rfl (rd_assign rfl) ?_)
                        refine gl_op (op_rd rfl (rd_assign rfl) ?_)
                        refine gl_nil ?_
                        refine gx_then ?_
                        refine gc_seq ?_
                        refine gc_seq ?_
                        refine gc_region ?_
                        refine gl_op (op_rd rfl (rd_assign rfl) ?_)
                        refine gl_nil ?_
                        refine gx_then ?_
                        refine gc_block ?_
                        refine gc_loopF (ι := Nat) [(12, _), (13, _), (14, _), (15, _)] [_, _, _, _, _, _, _, _, _, _, _, _, _, _, _, _, _, _, _, _, _, _, _, _, _, _, _, _, _, _, _, _, _, _, _, _, _, _, _, _, _, _, _, _, _] (fun j => j ≤ 4) (fun j Fr0 => ((16, natV j) :: Fr0)) (fun j Fr0 => Fr0) (fun j => 4 - j) 0 (Nat.zero_le _) ⟨rfl, rfl, rfl, rfl, rfl, trivial⟩ ⟨[0, 1, 2, 3, 4, 5, 6, 7, 8, 9, 10, 11, 12, 13, 14, 15, 16, 17, 18, 19, 20, 21, 22, 23, 24, 25, 26, 27, 28, 29, 30, 31, 32, 33, 34, 35, 36, 37, 38, 39, 40, 41, 42, 43, 44], by decide, rfl⟩ ?_
                        rintro k hk
                        refine gc_seq ?_
                        refine gc_seq ?_
                        refine gc_region ?_
                        refine gl_op (op_rd rfl (rd_move rfl) ?_)
                        refine gl_op (op_rd rfl (rd_move rfl) ?_)
                        refine gl_op (op_rd rfl (rd_lenSlice Try.underlying23 rfl) ?_)
                        refine gl_op (op_rd rfl (rd_lss rfl rfl) (gk_dec (fun hlt => ?_) (fun hlt => ?_)))
                        · skip
                          obtain ⟨hk1, hk2, hk3⟩ := hold_all b123 b125 b126 k (by omega)
                          refine gl_nil ?_
                          refine gx_then ?_
                          refine gc_cond_t rfl ?_
                          refine gc_skip ?_
                          refine gx_then ?_
                          refine gc_seq ?_
                          refine gc_block ?_
                          refine gc_seq ?_
                          refine gc_drawP [0, 1, 2, 3, 4, 5, 6, 7, 8, 9, 10, 11, 12, 13, 14, 15, 16, 17, 18, 19, 20, 21, 22, 23, 24, 25, 26, 27, 28, 29, 30, 31, 32, 33, 34, 35, 36, 37, 38, 39, 40, 41, 42, 43, 44] true 14 rfl ?_
                          refine ga_first 0 #[true, false, false, false, false, false, false, false, false, false, false, false, false, false, false] rfl rfl rfl rfl (by kernel_rfl) rfl ⟨[0, 1, 2, 3, 4, 5, 6, 7, 8, 9, 10, 11, 12, 13, 14, 15, 16, 17, 18, 19, 20, 21, 22, 23, 24, 25, 26, 27, 28, 29, 30, 31, 32, 33, 34, 35, 36, 37, 38, 39, 40, 41, 42, 43, 44], by decide, rfl⟩ (qt_rd (rd_loadAgg Try.underlying25 rfl ty_25 rfl (by first | exact cs_blk 3 (off := 0) (k := 3) rfl rfl | exact cs_blk 9 (off := 0) (k := 3) rfl rfl | exact cs_blk 10 (off := 0) (k := 3) rfl rfl | exact cs_blk 11 (off := 0) (k := 3) rfl rfl | exact cs_blk 12 (off := 0) (k := 3) rfl rfl | exact cs_blk 13 (off := 0) (k := 3) rfl rfl | exact cs_blk 14 (off := 0) (k := 3) rfl rfl | exact cs_blk 15 (off := 0) (k := 3) rfl rfl | exact cs_blk 18 (off := 0) (k := 3) rfl rfl | exact cs_blk 24 (off := 0) (k := 3) rfl rfl | exact cs_old (by assumption) (by simp)) rfl)) ?_
                          refine ga_first 1 #[true, true, false, false, false, false, false, false, false, false, false, false, false, false, false] rfl rfl rfl rfl (by kernel_rfl) rfl ⟨[0, 1, 2, 3, 4, 5, 6, 7, 8, 9, 10, 11, 12, 13, 14, 15, 16, 17, 18, 19, 20, 21, 22, 23, 24, 25, 26, 27, 28, 29, 30, 31, 32, 33, 34, 35, 36, 37, 38, 39, 40, 41, 42, 43, 44], by decide, rfl⟩ (qt_rd (rd_move rfl)) ?_
                          refine ga_first 2 #[true, true, true, false, false, false, false, false, false, false, false, false, false, false, false] rfl rfl rfl rfl (by kernel_rfl) rfl ⟨[0, 1, 2, 3, 4, 5, 6, 7, 8, 9, 10, 11, 12, 13, 14, 15, 16, 17, 18, 19, 20, 21, 22, 23, 24, 25, 26, 27, 28, 29, 30, 31, 32, 33, 34, 35, 36, 37, 38, 39, 40, 41, 42, 43, 44], by decide, rfl⟩ (qt_rd (rd_move rfl)) ?_
                          refine ga_first 3 #[true, true, true, true, false, false, false, false, false, false, false, false, false, false, false] rfl rfl rfl rfl (by kernel_rfl) rfl ⟨[0, 1, 2, 3, 4, 5, 6, 7, 8, 9, 10, 11, 12, 13, 14, 15, 16, 17, 18, 19, 20, 21, 22, 23, 24, 25, 26, 27, 28, 29, 30, 31, 32, 33, 34, 35, 36, 37, 38, 39, 40, 41, 42, 43, 44], by decide, rfl⟩ (qt_rd (by first | exact rd_indexRow1 0 rfl Try.underlying23 ty_3 rfl rfl (by omega) (by omega) | exact rd_indexRow1 1 rfl Try.underlying23 ty_3 rfl rfl (by omega) (by omega) | exact rd_indexRow1 2 rfl Try.underlying23 ty_3 rfl rfl (by omega) (by omega) | exact rd_indexRow1 4 rfl Try.underlying23 ty_3 rfl rfl (by omega) (by omega) | exact rd_indexRow1 5 rfl Try.underlying23 ty_3 rfl rfl (by omega) (by omega) | exact rd_indexRow1 6 rfl Try.underlying23 ty_3 rfl rfl (by omega) (by omega) | exact rd_indexRow1 7 rfl Try.underlying23 ty_3 rfl rfl (by omega) (by omega) | exact rd_indexRow1 8 rfl Try.underlying23 ty_3 rfl rfl (by omega) (by omega) | exact rd_indexRow1 16 rfl Try.underlying23 ty_3 rfl rfl (by omega) (by omega) | exact rd_indexRow1 17 rfl Try.underlying23 ty_3 rfl rfl (by omega) (by omega) | exact rd_indexRow1 19 rfl Try.underlying23 ty_3 rfl rfl (by omega) (by omega) | exact rd_indexRow1 20 rfl Try.underlying23 ty_3 rfl rfl (by omega) (by omega) | exact rd_indexRow1 21 rfl Try.underlying23 ty_3 rfl rfl (by omega) (by omega) | exact rd_indexRow1 22 rfl Try.underlying23 ty_3 rfl rfl (by omega) (by omega) | exact rd_indexRow1 23 rfl Try.underlying23 ty_3 rfl rfl (by omega) (by omega) | exact rd_indexRow1 25 rfl Try.underlying23 ty_3 rfl rfl (by omega) (by omega) | exact rd_indexRow1 26 rfl Try.underlying23 ty_3 rfl rfl (by omega) (by omega) | exact rd_indexRow1 27 rfl Try.underlying23 ty_3 rfl rfl (by omega) (by omega) | exact rd_indexRow1 28 rfl Try.underlying23 ty_3 rfl rfl (by omega) (by omega) | exact rd_indexRow1 29 rfl Try.underlying23 ty_3 rfl rfl (by omega) (by omega) | exact rd_indexRow1 30 rfl Try.underlying23 ty_3 rfl rfl (by omega) (by omega) | exact rd_indexRow1 31 rfl Try.underlying23 ty_3 rfl rfl (by omega) (by omega) | exact rd_indexRow1 32 rfl Try.underlying23 ty_3 rfl rfl (by omega) (by omega) | exact rd_indexRow1 33 rfl Try.underlying23 ty_3 rfl rfl (by omega) (by omega) | exact rd_indexRow1 34 rfl Try.underlying23 ty_3 rfl rfl (by omega) (by omega) | exact rd_indexRow1 35 rfl Try.underlying23 ty_3 rfl rfl (by omega) (by omega) | exact rd_indexRow1 36 rfl Try.underlying23 ty_3 rfl rfl (by omega) (by omega) | exact rd_indexRow1 37 rfl Try.underlying23 ty_3 rfl rfl (by omega) (by omega) | exact rd_indexRow1 38 rfl Try.underlying23 ty_3 rfl rfl (by omega) (by omega) | exact rd_indexRow1 39 rfl Try.underlying23 ty_3 rfl rfl (by omega) (by omega) | exact rd_indexRow1 40 rfl Try.underlying23 ty_3 rfl rfl (by omega) (by omega) | exact rd_indexRow1 41 rfl Try.underlying23 ty_3 rfl rfl (by omega) (by omega) | exact rd_indexRow1 42 rfl Try.underlying23 ty_3 rfl rfl (by omega) (by omega) | exact rd_indexRow1 43 rfl Try.underlying23 ty_3 rfl rfl (by omega) (by omega) | exact rd_indexRow1 44 rfl Try.underlying23 ty_3 rfl rfl (by omega) (by omega) | exact rd_indexOld1 (by assumption) Try.underlying23 ty_3 rfl rfl (by omega) (by omega) | exact rd_index1 Try.underlying23 ty_3 rfl rfl (by omega) (by omega))) ?_
                          refine ga_first 4 #[true, true, true, true, true, false, false, false, false, false, false, false, false, false, false] rfl rfl rfl rfl (by kernel_rfl) rfl ⟨[0, 1, 2, 3, 4, 5, 6, 7, 8, 9, 10, 11, 12, 13, 14, 15, 16, 17, 18, 19, 20, 21, 22, 23, 24, 25, 26, 27, 28, 29, 30, 31, 32, 33, 34, 35, 36, 37, 38, 39, 40, 41, 42, 43, 44], by decide, rfl⟩ (qt_rd (rd_load Try.underlying3 rfl rfl (ld_rowN 2 rfl (get_nats (zs := hS) (show k < 4 by omega))))) ?_
                          refine ga_first 5 #[true, true, true, true, true, true, false, false, false, false, false, false, false, false, false] rfl rfl rfl rfl (by kernel_rfl) rfl ⟨[0, 1, 2, 3, 4, 5, 6, 7, 8, 9, 10, 11, 12, 13, 14, 15, 16, 17, 18, 19, 20, 21, 22, 23, 24, 25, 26, 27, 28, 29, 30, 31, 32, 33, 34, 35, 36, 37, 38, 39, 40, 41, 42, 43, 44], by decide, rfl⟩ (qt_rd (rd_move rfl)) ?_
                          refine ga_first 6 #[true, true, true, true, true, true, true, false, false, false, false, false, false, false, false] rfl rfl rfl rfl (by kernel_rfl) rfl ⟨[0, 1, 2, 3, 4, 5, 6, 7, 8, 9, 10, 11, 12, 13, 14, 15, 16, 17, 18, 19, 20, 21, 22, 23, 24, 25, 26, 27, 28, 29, 30, 31, 32, 33, 34, 35, 36, 37, 38, 39, 40, 41, 42, 43, 44], by decide, rfl⟩ (qt_rd (rd_move rfl)) ?_
                          refine ga_first 7 #[true, true, true, true, true, true, true, true, false, false, false, false, false, false, false] rfl rfl rfl rfl (by kernel_rfl) rfl ⟨[0, 1, 2, 3, 4, 5, 6, 7, 8, 9, 10, 11, 12, 13, 14, 15, 16, 17, 18, 19, 20, 21, 22, 23, 24, 25, 26, 27, 28, 29, 30, 31, 32, 33, 34, 35, 36, 37, 38, 39, 40, 41, 42, 43, 44], by decide, rfl⟩ (qt_rd (by first | exact rd_indexRow1 0 rfl Try.underlying23 ty_3 rfl rfl (by omega) (by omega) | exact rd_indexRow1 1 rfl Try.underlying23 ty_3 rfl rfl (by omega) (by omega) | exact rd_indexRow1 2 rfl Try.underlying23 ty_3 rfl rfl (by omega) (by omega) | exact rd_indexRow1 4 rfl Try.underlying23 ty_3 rfl rfl (by omega) (by omega) | exact rd_indexRow1 5 rfl Try.underlying23 ty_3 rfl rfl (by omega) (by omega) | exact rd_indexRow1 6 rfl Try.underlying23 ty_3 rfl rfl (by omega) (by omega) | exact rd_indexRow1 7 rfl Try.underlying23 ty_3 rfl rfl (by omega) (by omega) | exact rd_indexRow1 8 rfl Try.underlying23 ty_3 rfl rfl (by omega) (by omega) | exact rd_indexRow1 16 rfl Try.underlying23 ty_3 rfl rfl (by omega) (by omega) | exact rd_indexRow1 17 rfl Try.underlying23 ty_3 rfl rfl (by omega) (by omega) | exact rd_indexRow1 19 rfl Try.underlying23 ty_3 rfl rfl (by omega) (by omega) | exact rd_indexRow1 20 rfl Try.underlying23 ty_3 rfl rfl (by omega) (by omega) | exact rd_indexRow1 21 rfl Try.underlying23 ty_3 rfl rfl (by omega) (by omega) | exact rd_indexRow1 22 rfl Try.underlying23 ty_3 rfl rfl (by omega) (by omega) | exact rd_indexRow1 23 rfl Try.underlying23 ty_3 rfl rfl (by omega) (by omega) | exact rd_indexRow1 25 rfl Try.underlying23 ty_3 rfl rfl (by omega) (by omega) | exact rd_indexRow1 26 rfl Try.underlying23 ty_3 rfl rfl (by omega) (by omega) | exact rd_indexRow1 27 rfl Try.underlying23 ty_3 rfl rfl (by omega) (by omega) | exact rd_indexRow1 28 rfl Try.underlying23 ty_3 rfl rfl (by omega) (by omega) | exact rd_indexRow1 29 rfl Try.underlying23 ty_3 rfl rfl (by omega) (by omega) | exact rd_indexRow1 30 rfl Try.underlying23 ty_3 rfl rfl (by omega) (by omega) | exact rd_indexRow1 31 rfl Try.underlying23 ty_3 rfl rfl (by omega) (by omega) | exact rd_indexRow1 32 rfl Try.underlying23 ty_3 rfl rfl (by omega) (by omega) | exact rd_indexRow1 33 rfl Try.underlying23 ty_3 rfl rfl (by omega) (by omega) | exact rd_indexRow1 34 rfl Try.underlying23 ty_3 rfl rfl (by omega) (by omega) | exact rd_indexRow1 35 rfl Try.underlying23 ty_3 rfl rfl (by omega) (by omega) | exact rd_indexRow1 36 rfl Try.underlying23 ty_3 rfl rfl (by omega) (by omega) | exact rd_indexRow1 37 rfl Try.underlying23 ty_3 rfl rfl (by omega) (by omega) | exact rd_indexRow1 38 rfl Try.underlying23 ty_3 rfl rfl (by omega) (by omega) | exact rd_indexRow1 39 rfl Try.underlying23 ty_3 rfl rfl (by omega) (by omega) | exact rd_indexRow1 40 rfl Try.underlying23 ty_3 rfl rfl (by omega) (by omega) | exact rd_indexRow1 41 rfl Try.underlying23 ty_3 rfl rfl (by omega) (by omega) | exact rd_indexRow1 42 rfl Try.underlying23 ty_3 rfl rfl (by omega) (by omega) | exact rd_indexRow1 43 rfl Try.underlying23 ty_3 rfl rfl (by omega) (by omega) | exact rd_indexRow1 44 rfl Try.underlying23 ty_3 rfl rfl (by omega) (by omega) | exact rd_indexOld1 (by assumption) Try.underlying23 ty_3 rfl rfl (by omega) (by omega) | exact rd_index1 Try.underlying23 ty_3 rfl rfl (by omega) (by omega))) ?_
                          refine ga_first 8 #[true, true, true, true, true, true, true, true, true, false, false, false, false, false, false] rfl rfl rfl rfl (by kernel_rfl) rfl ⟨[0, 1, 2, 3, 4, 5, 6, 7, 8, 9, 10, 11, 12, 13, 14, 15, 16, 17, 18, 19, 20, 21, 22, 23, 24, 25, 26, 27, 28, 29, 30, 31, 32, 33, 34, 35, 36, 37, 38, 39, 40, 41, 42, 43, 44], by decide, rfl⟩ (qt_rd (rd_load Try.underlying3 rfl rfl (ld_rowN 1 rfl (get_nats (zs := hI) (show k < 4 by omega))))) ?_
                          refine ga_first 9 #[true, true, true, true, true, true, true, true, true, true, false, false, false, false, false] rfl rfl rfl rfl (by kernel_rfl) rfl ⟨[0, 1, 2, 3, 4, 5, 6, 7, 8, 9, 10, 11, 12, 13, 14, 15, 16, 17, 18, 19, 20, 21, 22, 23, 24, 25, 26, 27, 28, 29, 30, 31, 32, 33, 34, 35, 36, 37, 38, 39, 40, 41, 42, 43, 44], by decide, rfl⟩ (qt_call (vf := []) (vc := []) rfl rfl Try.call11 (fun w ho => SettleC_ok (holdC b123 b125 b126) (hS.getD k 0) (hI.getD k 0) (hW.getD k 0) w (hold_in ho 5 6 4 rfl rfl rfl) (by omega) (by omega) hk1) (by rintro _ _ ⟨h, _⟩; exact h)) ?_
                          refine ga_first 10 #[true, true, true, true, true, true, true, true, true, true, true, false, false, false, false] rfl rfl rfl rfl (by kernel_rfl) rfl ⟨[0, 1, 2, 3, 4, 5, 6, 7, 8, 9, 10, 11, 12, 13, 14, 15, 16, 17, 18, 19, 20, 21, 22, 23, 24, 25, 26, 27, 28, 29, 30, 31, 32, 33, 34, 35, 36, 37, 38, 39, 40, 41, 42, 43, 44], by decide, rfl⟩ (qt_rd (rd_move rfl)) ?_
                          refine ga_first 11 #[true, true, true, true, true, true, true, true, true, true, true, true, false, false, false] rfl rfl rfl rfl (by kernel_rfl) rfl ⟨[0, 1, 2, 3, 4, 5, 6, 7, 8, 9, 10, 11, 12, 13, 14, 15, 16, 17, 18, 19, 20, 21, 22, 23, 24, 25, 26, 27, 28, 29, 30, 31, 32, 33, 34, 35, 36, 37, 38, 39, 40, 41, 42, 43, 44], by decide, rfl⟩ (qt_rd (rd_extract rfl rfl)) ?_
                          refine ga_first 12 #[true, true, true, true, true, true, true, true, true, true, true, true, true, false, false] rfl rfl rfl rfl (by kernel_rfl) rfl ⟨[0, 1, 2, 3, 4, 5, 6, 7, 8, 9, 10, 11, 12, 13, 14, 15, 16, 17, 18, 19, 20, 21, 22, 23, 24, 25, 26, 27, 28, 29, 30, 31, 32, 33, 34, 35, 36, 37, 38, 39, 40, 41, 42, 43, 44], by decide, rfl⟩ (qt_rd (rd_extract rfl rfl)) ?_
                          refine ga_first 13 #[true, true, true, true, true, true, true, true, true, true, true, true, true, true, false] rfl rfl rfl rfl (by kernel_rfl) rfl ⟨[0, 1, 2, 3, 4, 5, 6, 7, 8, 9, 10, 11, 12, 13, 14, 15, 16, 17, 18, 19, 20, 21, 22, 23, 24, 25, 26, 27, 28, 29, 30, 31, 32, 33, 34, 35, 36, 37, 38, 39, 40, 41, 42, 43, 44], by decide, rfl⟩ (qt_rd (rd_assign rfl)) ?_
                          refine ga_first 14 #[true, true, true, true, true, true, true, true, true, true, true, true, true, true, true] rfl rfl rfl rfl (by kernel_rfl) rfl ⟨[0, 1, 2, 3, 4, 5, 6, 7, 8, 9, 10, 11, 12, 13, 14, 15, 16, 17, 18, 19, 20, 21, 22, 23, 24, 25, 26, 27, 28, 29, 30, 31, 32, 33, 34, 35, 36, 37, 38, 39, 40, 41, 42, 43, 44], by decide, rfl⟩ (qt_rd (rd_assign rfl)) ?_
                          refine ga_end (by kernel_rfl) (.inr ⟨[0, 1, 2, 3, 4, 5, 6, 7, 8, 9, 10, 11, 12, 13, 14, 15, 16, 17, 18, 19, 20, 21, 22, 23, 24, 25, 26, 27, 28, 29, 30, 31, 32, 33, 34, 35, 36, 37, 38, 39, 40, 41, 42, 43, 44], by decide, rfl⟩) ?_
                          refine gx_then ?_
                          refine gc_seq ?_
                          refine gc_region ?_
                          refine gl_op (op_rd rfl (rd_move rfl) ?_)
                          refine gl_op (op_rd rfl (rd_neq rfl rfl) (gk_dec (fun h151 => ?_) (fun h151 => ?_)))
                          · skip
                            exact absurd rfl h151
                          · skip
                            refine gl_op (op_rd rfl (rd_move rfl) ?_)
                            refine gl_yes rfl rfl (op_rd rfl (rd_move rfl) ?_)
                            refine gl_yes rfl rfl (op_rd rfl (rd_move rfl) ?_)
                            refine gl_yes rfl rfl (op_rd rfl (rd_move rfl) ?_)
                            refine gl_yes rfl rfl (op_rd rfl (by first | exact rd_indexRow1 0 rfl Try.underlying23 ty_3 rfl rfl (by omega) (by omega) | exact rd_indexRow1 1 rfl Try.underlying23 ty_3 rfl rfl (by omega) (by omega) | exact rd_indexRow1 2 rfl Try.underlying23 ty_3 rfl rfl (by omega) (by omega) | exact rd_indexRow1 4 rfl Try.underlying23 ty_3 rfl rfl (by omega) (by omega) | exact rd_indexRow1 5 rfl Try.underlying23 ty_3 rfl rfl (by omega) (by omega) | exact rd_indexRow1 6 rfl Try.underlying23 ty_3 rfl rfl (by omega) (by omega) | exact rd_indexRow1 7 rfl Try.underlying23 ty_3 rfl rfl (by omega) (by omega) | exact rd_indexRow1 8 rfl Try.underlying23 ty_3 rfl rfl (by omega) (by omega) | exact rd_indexRow1 16 rfl Try.underlying23 ty_3 rfl rfl (by omega) (by omega) | exact rd_indexRow1 17 rfl Try.underlying23 ty_3 rfl rfl (by omega) (by omega) | exact rd_indexRow1 19 rfl Try.underlying23 ty_3 rfl rfl (by omega) (by omega) | exact rd_indexRow1 20 rfl Try.underlying23 ty_3 rfl rfl (by omega) (by omega) | exact rd_indexRow1 21 rfl Try.underlying23 ty_3 rfl rfl (by omega) (by omega) | exact rd_indexRow1 22 rfl Try.underlying23 ty_3 rfl rfl (by omega) (by omega) | exact rd_indexRow1 23 rfl Try.underlying23 ty_3 rfl rfl (by omega) (by omega) | exact rd_indexRow1 25 rfl Try.underlying23 ty_3 rfl rfl (by omega) (by omega) | exact rd_indexRow1 26 rfl Try.underlying23 ty_3 rfl rfl (by omega) (by omega) | exact rd_indexRow1 27 rfl Try.underlying23 ty_3 rfl rfl (by omega) (by omega) | exact rd_indexRow1 28 rfl Try.underlying23 ty_3 rfl rfl (by omega) (by omega) | exact rd_indexRow1 29 rfl Try.underlying23 ty_3 rfl rfl (by omega) (by omega) | exact rd_indexRow1 30 rfl Try.underlying23 ty_3 rfl rfl (by omega) (by omega) | exact rd_indexRow1 31 rfl Try.underlying23 ty_3 rfl rfl (by omega) (by omega) | exact rd_indexRow1 32 rfl Try.underlying23 ty_3 rfl rfl (by omega) (by omega) | exact rd_indexRow1 33 rfl Try.underlying23 ty_3 rfl rfl (by omega) (by omega) | exact rd_indexRow1 34 rfl Try.underlying23 ty_3 rfl rfl (by omega) (by omega) | exact rd_indexRow1 35 rfl Try.underlying23 ty_3 rfl rfl (by omega) (by omega) | exact rd_indexRow1 36 rfl Try.underlying23 ty_3 rfl rfl (by omega) (by omega) | exact rd_indexRow1 37 rfl Try.underlying23 ty_3 rfl rfl (by omega) (by omega) | exact rd_indexRow1 38 rfl Try.underlying23 ty_3 rfl rfl (by omega) (by omega) | exact rd_indexRow1 39 rfl Try.underlying23 ty_3 rfl rfl (by omega) (by omega) | exact rd_indexRow1 40 rfl Try.underlying23 ty_3 rfl rfl (by omega) (by omega) | exact rd_indexRow1 41 rfl Try.underlying23 ty_3 rfl rfl (by omega) (by omega) | exact rd_indexRow1 42 rfl Try.underlying23 ty_3 rfl rfl (by omega) (by omega) | exact rd_indexRow1 43 rfl Try.underlying23 ty_3 rfl rfl (by omega) (by omega) | exact rd_indexRow1 44 rfl Try.underlying23 ty_3 rfl rfl (by omega) (by omega) | exact rd_indexOld1 (by assumption) Try.underlying23 ty_3 rfl rfl (by omega) (by omega) | exact rd_index1 Try.underlying23 ty_3 rfl rfl (by omega) (by omega)) ?_)
                            refine gl_yes rfl rfl (op_rd rfl (rd_load Try.underlying3 rfl rfl (ld_rowN 0 rfl (get_nats (zs := hW) (show k < 4 by omega)))) ?_)
                            refine gl_yes rfl rfl (op_rd rfl (rd_neq rfl rfl) (gk_dec (fun h158 => ?_) (fun h158 => ?_)))
                            · skip
                              exact absurd rfl h158
                            · skip
                              refine gl_op (op_rd rfl (rd_pick_f rfl rfl) ?_)
                              refine gl_nil ?_
                              refine gx_then ?_
                              refine gc_cond_f rfl ?_
                              refine gc_skip ?_
                              refine gx_block ?_
                              refine gx_then ?_
                              refine gc_region ?_
                              refine gl_op (op_rd rfl (rd_move rfl) ?_)
                              refine gl_op (op_rd rfl (by first | exact rd_addN (b := 1) rfl rfl (by omega) | exact rd_add rfl rfl (by omega) (by omega)) ?_)
                              refine gl_op (op_rd rfl (rd_assign rfl) ?_)
                              refine gl_nil ?_
                              refine gx_then ?_
                              exact gx_cut (k + 1) ⟨(by omega), by omega⟩ ⟨rfl, rfl, rfl, rfl, rfl, trivial⟩ ⟨[0, 1, 2, 3, 4, 5, 6, 7, 8, 9, 10, 11, 12, 13, 14, 15, 16, 17, 18, 19, 20, 21, 22, 23, 24, 25, 26, 27, 28, 29, 30, 31, 32, 33, 34, 35, 36, 37, 38, 39, 40, 41, 42, 43, 44], by decide, rfl⟩
                        · skip
                          refine gl_nil ?_
                          refine gx_then ?_
                          refine gc_cond_f rfl ?_
                          refine gc_exit ?_
                          refine gx_then_exit ?_
                          refine gx_then_exit ?_
                          refine gx_block_exit ?_
                          refine gx_then ?_
                          refine gc_seq ?_
                          refine gc_region ?_
                          refine gl_op (op_rd rfl (rd_loadAgg Try.underlying25 rfl ty_25 rfl (by first | exact cs_blk 3 (off := 0) (k := 3) rfl rfl | exact cs_blk 9 (off := 0) (k := 3) rfl rfl | exact cs_blk 10 (off := 0) (k := 3) rfl rfl | exact cs_blk 11 (off := 0) (k := 3) rfl rfl | exact cs_blk 12 (off := 0) (k := 3) rfl rfl | exact cs_blk 13 (off := 0) (k := 3) rfl rfl | exact cs_blk 14 (off := 0) (k := 3) rfl rfl | exact cs_blk 15 (off := 0) (k := 3) rfl rfl | exact cs_blk 18 (off := 0) (k := 3) rfl rfl | exact cs_blk 24 (off := 0) (k := 3) rfl rfl | exact cs_old (by assumption) (by simp)) rfl) ?_)
                          refine gl_op (op_call rfl (vf := []) (vc := []) rfl rfl Try.call26 (fun w ho => AcceptC_ok (holdC b123 b125 b126) 0 ⟨true, 0, 0, ⟨0, [], []⟩, 0⟩ w (hold_in ho 5 6 4 rfl rfl rfl) (by decide) (hold_acc b123 b125 b126)) ?_)
                          rintro _ _ ⟨re, ce, rf, cf, rfl, rfl⟩
                          refine gl_op (op_rd rfl (rd_move rfl) ?_)
                          refine gl_op (op_rd rfl (rd_extract rfl rfl) ?_)
                          refine gl_op (op_rd rfl (rd_extract rfl rfl) ?_)
                          refine gl_op (op_alloc ty_50 rfl rfl (fun b19 => ?_))
                          first | refine gl_op (op_storeAgg 0 ty_50 rfl rfl rfl rfl rfl rfl (by first | rfl | (simp only [List.set_cons_succ, List.set_cons_zero]; exact rfl)) ?_) | refine gl_op (op_storeAgg 6 ty_50 rfl rfl rfl rfl rfl rfl (by first | rfl | (simp only [List.set_cons_succ, List.set_cons_zero]; exact rfl)) ?_) | refine gl_op (op_storeAgg 12 ty_50 rfl rfl rfl rfl rfl rfl (by first | rfl | (simp only [List.set_cons_succ, List.set_cons_zero]; exact rfl)) ?_) | refine gl_op (op_storeAgg 13 ty_50 rfl rfl rfl rfl rfl rfl (by first | rfl | (simp only [List.set_cons_succ, List.set_cons_zero]; exact rfl)) ?_) | refine gl_op (op_storeAgg 14 ty_50 rfl rfl rfl rfl rfl rfl (by first | rfl | (simp only [List.set_cons_succ, List.set_cons_zero]; exact rfl)) ?_) | refine gl_op (op_storeAgg 15 ty_50 rfl rfl rfl rfl rfl rfl (by first | rfl | (simp only [List.set_cons_succ, List.set_cons_zero]; exact rfl)) ?_) | refine gl_op (op_storeAgg 16 ty_50 rfl rfl rfl rfl rfl rfl (by first | rfl | (simp only [List.set_cons_succ, List.set_cons_zero]; exact rfl)) ?_) | refine gl_op (op_storeAgg 17 ty_50 rfl rfl rfl rfl rfl rfl (by first | rfl | (simp only [List.set_cons_succ, List.set_cons_zero]; exact rfl)) ?_) | refine gl_op (op_storeAgg 18 ty_50 rfl rfl rfl rfl rfl rfl (by first | rfl | (simp only [List.set_cons_succ, List.set_cons_zero]; exact rfl)) ?_) | refine gl_op (op_storeAgg 21 ty_50 rfl rfl rfl rfl rfl rfl (by first | rfl | (simp only [List.set_cons_succ, List.set_cons_zero]; exact rfl)) ?_) | refine gl_op (op_storeAgg 27 ty_50 rfl rfl rfl rfl rfl rfl (by first | rfl | (simp only [List.set_cons_succ, List.set_cons_zero]; exact rfl)) ?_)
                          refine gl_op (op_rd rfl (rd_assign rfl) ?_)
                          refine gl_nil ?_
                          refine gx_then ?_
                          refine gc_seq ?_
                          refine gc_region ?_
                          refine gl_op (op_rd rfl (rd_move rfl) ?_)
                          refine gl_op (op_rd rfl (rd_eql rfl rfl) (gk_dec (fun h166 => ?_) (fun h166 => ?_)))
                          · skip
                            refine gl_op (op_rd rfl (rd_move rfl) ?_)
                            refine gl_yes rfl rfl (op_rd rfl (rd_fieldAddr rfl (fa_50_0 _)) ?_)
                            refine gl_yes rfl rfl (op_rd rfl (rd_load Try.underlying4 rfl rfl (by first | exact ld_blk 0 rfl rfl | exact ld_blk 6 rfl rfl | exact ld_blk 12 rfl rfl | exact ld_blk 13 rfl rfl | exact ld_blk 14 rfl rfl | exact ld_blk 15 rfl rfl | exact ld_blk 16 rfl rfl | exact ld_blk 17 rfl rfl | exact ld_blk 18 rfl rfl | exact ld_blk 21 rfl rfl | exact ld_blk 27 rfl rfl | exact ld_rowN 1 rfl (get_bools (by omega)) | exact ld_rowN 2 rfl (get_bools (by omega)) | exact ld_rowN 3 rfl (get_bools (by omega)) | exact ld_rowN 4 rfl (get_bools (by omega)) | exact ld_rowN 5 rfl (get_bools (by omega)) | exact ld_rowN 7 rfl (get_bools (by omega)) | exact ld_rowN 8 rfl (get_bools (by omega)) | exact ld_rowN 9 rfl (get_bools (by omega)) | exact ld_rowN 10 rfl (get_bools (by omega)) | exact ld_rowN 11 rfl (get_bools (by omega)) | exact ld_rowN 19 rfl (get_bools (by omega)) | exact ld_rowN 20 rfl (get_bools (by omega)) | exact ld_rowN 22 rfl (get_bools (by omega)) | exact ld_rowN 23 rfl (get_bools (by omega)) | exact ld_rowN 24 rfl (get_bools (by omega)) | exact ld_rowN 25 rfl (get_bools (by omega)) | exact ld_rowN 26 rfl (get_bools (by omega)) | exact ld_rowN 28 rfl (get_bools (by omega)) | exact ld_rowN 29 rfl (get_bools (by omega)) | exact ld_rowN 30 rfl (get_bools (by omega)) | exact ld_rowN 31 rfl (get_bools (by omega)) | exact ld_rowN 32 rfl (get_bools (by omega)) | exact ld_rowN 33 rfl (get_bools (by omega)) | exact ld_rowN 34 rfl (get_bools (by omega)) | exact ld_rowN 35 rfl (get_bools (by omega)) | exact ld_rowN 36 rfl (get_bools (by omega)) | exact ld_rowN 37 rfl (get_bools (by omega)) | exact ld_rowN 38 rfl (get_bools (by omega)) | exact ld_rowN 39 rfl (get_bools (by omega)) | exact ld_rowN 40 rfl (get_bools (by omega)) | exact ld_rowN 41 rfl (get_bools (by omega)) | exact ld_rowN 42 rfl (get_bools (by omega)) | exact ld_rowN 43 rfl (get_bools (by omega)) | exact ld_rowN 44 rfl (get_bools (by omega)) | exact ld_rowN 45 rfl (get_bools (by omega)) | exact ld_rowN 46 rfl (get_bools (by omega)) | exact ld_rowN 47 rfl (get_bools (by omega)) | exact ld_slN (by assumption) (get_bools (by omega)) | exact ld_old (by assumption) (by simp) | exact ld_cells (by assumption) (by simp) rfl)) ?_)
                            refine gl_op (op_rd rfl (rd_pick_t rfl rfl) ?_)
                            refine gl_op (op_rd rfl (rd_move rfl) ?_)
                            refine gl_yes rfl rfl (op_call rfl (vf := []) (vc := []) rfl rfl Try.call12 (fun w ho => awake_ok w (fun c im h hg => facts c im h hg)) ?_)
                            rintro _ _ ⟨rfl, rfl⟩
                            refine gl_op (op_rd rfl (rd_pick_t rfl rfl) ?_)
                            refine gl_op (op_rd rfl (rd_assign rfl) ?_)
                            refine gl_nil ?_
                            refine gx_then ?_
                            refine gc_ret ?_
                            refine gx_ret1 (.inl rfl) Try.results7 rfl [] (by decide) ?_
                            exact ⟨rfl, rfl⟩
                          · skip
                            exact absurd rfl h166

end Go.Proofs.Yteocjpnckciboaa

set_option autoImplicit false
set_option linter.unusedVariables false
namespace Go.Proofs.Yteocjpnckciboaa
open Go.Gv
open Go.RowKit Go.ChangeShapes Go.WideShapes
open Ry
set_option maxHeartbeats 1000000 in
set_option maxRecDepth 100000 in
theorem relaysKnown_lifted (os : Os) (started : os.Started) (H : Type) (enc : TypeId × Value → H) :
    ReturnsInHanded {} Try.checked os 7 .any (Rows.relaysKnownSpec.pre6 enc Try.prog Try.f7 Rows.relaysKnownRow.domain false) (Rows.relaysKnownSpec.post enc Try.prog Try.f7 false true false false) := by
  refine returnsInHanded_of_change_sized (C := Try.checked) tryOwn started (by kernel_rfl) Try.func7
    (ChangeSpec.witness6 (enc := enc) (C := Try.checked) false ⟨#[], #[], []⟩ 8 (by kernel_rfl) (by kernel_rfl) (by kernel_rfl) (by kernel_rfl)) ?_
  intro W base args ds gs before hval0 hW _ hwt _
  have hval : ∀ (j : Nat) t v, Try.f7.params[j]? = some t → args[j]? = some v → Value.okWide Try.prog W .any base t v := hval0
  have hW' := hW
  obtain ⟨p, q, hA0, hV, rfl, hfz, hnd⟩ := hW
  have hA : DataW.TrodAll enc Try.prog W 0 (fun _ => true) true Try.f7.params.toList args.toList ds p := hA0
  rw [Try.params7] at hA hval
  obtain ⟨hargs, rfl, rfl⟩ := trodAll_nil hA
  obtain rfl : args = #[] := Array.toList_inj.1 hargs
  obtain ⟨rfl, rfl⟩ := trodVars_none hV
  have hcall := RelaysKnown_ok W
  unfold Sp at hcall
  refine Calls.mono hcall fun e W' ⟨v, l, he, hR, ho⟩ => ⟨v, he, ?_⟩
  obtain ⟨rfl, rfl⟩ := hR
  exact law_post hW' rfl ho.below rfl rfl rfl rfl (by rw [Try.params7]; intro t ht; exact absurd ht (by simp))
theorem relaysKnown_over : Rows.relaysKnownRow.holds Try.pinned (OpenSpec.ofChange Rows.relaysKnownSpec) :=
  OpenClaim.holds_of_wide 7 Try.f7 rfl rfl rfl rfl rfl rfl rfl ⟨rfl, rfl, rfl, rfl, rfl⟩ rfl rfl rfl rfl rfl (by kernel_rfl) Try.func7 (by kernel_rfl)
    (of_decide_eq_true (by kernel_rfl)) (by unfold Func.isWrapper; first | (rw [if_pos (by decide +kernel)]; kernel_rfl) | (rw [if_neg (by decide +kernel)]; exact ⟨rfl, rfl⟩))
    (fun os started H enc _ => relaysKnown_lifted os started H enc)
theorem relaysKnown_proved : Rows.RelaysKnownSaid := relaysKnown_over
end Go.Proofs.Yteocjpnckciboaa
