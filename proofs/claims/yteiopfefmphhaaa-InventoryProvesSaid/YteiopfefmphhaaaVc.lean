import Derived.Test.YteiopfefmphhaaaVb
import Derived.Test.YteiopfefmphhaaaGw
import Derived.Test.YteiopfefmphhaaaVa
/- The walks of Best and Short. -/
set_option linter.unusedSimpArgs false
set_option linter.unusedVariables false
set_option linter.unnecessarySimpa false
set_option autoImplicit false
set_option linter.unusedVariables false
namespace Go.Proofs.Yteiopfefmphhaaa
open Go.Gv
open Go.RowKit
namespace Iv
theorem own_row {w0 w : World} {S : List Nat} {l : List HL} (ho : Own w0 S w l) {E : TypeId} {sz : Nat} {r : Option Nat} {m cap : Nat} {xs : List Value} (h : HL.row E sz r m cap xs ∈ l) : OldSl w [] (rowA r) m sz xs ∧ m ≤ cap := by
  obtain ⟨i, hi⟩ := List.getElem?_of_mem h
  refine ⟨ho.rowSl i hi, ?_⟩
  have hh := ho.holds _ h
  cases r with
  | none => have := hh.2; omega
  | some g => obtain ⟨_, cur, _, h2, _⟩ := hh; exact h2
theorem own_tb {tb : List ORow} {r : Option Nat} {cp : Nat} {w0 w : World} {S : List Nat} {l : List HL} (ho : Own w0 S w l) (h0 : HL.row 65 1 r tb.length cp (tb.map fun o => o.p.cell) ∈ l) (hr : ∀ x ∈ rowsT tb, x ∈ l) : ∃ tp : List PRow, tp.length = tb.length ∧ tp.map PRow.ps = tb.map ORow.ps ∧ TbIn tp (rowA r) w [] ∧ tp.length ≤ cp := by
  refine ⟨tb.map ORow.p, List.length_map _, by rw [List.map_map]; rfl, ⟨?_, ?_⟩, by rw [List.length_map]; exact (own_row ho h0).2⟩
  · have := (own_row ho h0).1
    rw [List.length_map, List.map_map]; exact this
  · intro q hq
    obtain ⟨o, ho1, rfl⟩ := List.mem_map.1 hq
    exact (own_row ho (hr o.hl (List.mem_map.2 ⟨o, List.mem_reverse.2 ho1, rfl⟩))).1
theorem TbIn.drop {tb : List PRow} {a : Option Addr} {w : World} {S : List Nat} {cap : Nat} (h : TbIn tb a w S) (k : Nat) (hk : k ≤ tb.length) (hc : tb.length ≤ cap) : TbIn (tb.drop k) (subA a cap k 1) w S := by
  refine ⟨?_, fun q hq => h.r q (List.mem_of_mem_drop hq)⟩
  have := h.o.drop (cap := cap) k hk hc
  rw [Nat.mul_one] at this
  rw [List.length_drop, List.map_drop]; exact this
theorem assign_ok' (tb : List PRow) (a : Option Addr) (ca : Nat) (taken : List Bool) (ta : Option Addr) (tc : Nat) (m : Nat) (ol : List Nat) (sum : Pr) (na nt : Nat) (w0 : World) (ht : TbIn tb a w0 []) (htk : OldSl w0 [] ta nt 1 (taken.map boolV)) (hna : na = tb.length) (hnt : nt = taken.length) (hm : ∀ q ∈ tb, q.ps.length = m) (htl : m ≤ taken.length) (hn : tb.length ≤ 1000) (hm1 : m ≤ 1000) (hres : assignP (tb.map PRow.ps) taken = some (ol, sum)) : Sp Try.prog 30 [.slice a na ca, .slice ta nt tc] w0 [] (fun v L => ∃ (r : Option Nat) (cp : Nat), v = .tuple #[.slice (rowA r) ol.length cp, sum.val] ∧ L = [.row 3 1 r ol.length cp (ol.map natV)]) := by
  subst hna hnt
  exact assign_ok tb a ca taken ta tc m ol sum w0 ht htk hm (fun _ => htl) hn hm1 hres
theorem pr_eq {p q : Pr} : p = q ↔ p.a = q.a ∧ p.b = q.b := by
  cases p; cases q; simp
structure Bs where
  sum : Pr
  taken : List Bool
  list : List Nat
section
variable (t : List (List Pr))
def skipB (i j : Nat) (taken : List Bool) : Bool := taken.getD j false || decide (tbl t i j = never)
def bestJ (i : Nat) : Nat → Nat → Bs → Option Bs
  | 0, _, s => some s
  | f + 1, j, s => if skipB t i j s.taken then bestJ i f (j + 1) s else
    match assignP (t.drop (i + 1)) (s.taken.set j true) with
    | none => none
    | some x => if (tbl t i j).add x.2 = s.sum then some ⟨x.2, s.taken.set j true, s.list ++ [j]⟩ else bestJ i f (j + 1) ⟨s.sum, (s.taken.set j true).set j false, s.list⟩
def bestI (m : Nat) : Nat → Nat → Bs → Option Bs
  | 0, _, s => some s
  | f + 1, i, s => match bestJ t i m 0 s with
    | none => none
    | some s2 => bestI m f (i + 1) s2
end
def finB (n : Nat) (z : Int) : Int := if (n : Int) ≤ z then -1 else z
def bestP (l : List Pipe) (w : List Wish) : Option (List Int × Int) :=
  match assignP (tableP l w) (List.replicate (l.length + w.length) false) with
  | none => none
  | some x => match bestI (tableP l w) (l.length + w.length) w.length 0 ⟨x.2, List.replicate (l.length + w.length) false, []⟩ with
    | none => none
    | some s => some ((s.list.map fun n : Nat => (n : Int)).map (finB l.length), x.2.b)
def bestF (l : List Pipe) (w : List Wish) : Option (List Int × Int) := if checkP l w = 0 then bestP l w else some ([], 0)
theorem bestP_some {l : List Pipe} {w : List Wish} {res : List Int} {cst : Int} (h : bestP l w = some (res, cst)) : ∃ o0 sum0 sf, assignP (tableP l w) (List.replicate (l.length + w.length) false) = some (o0, sum0) ∧ bestI (tableP l w) (l.length + w.length) w.length 0 ⟨sum0, List.replicate (l.length + w.length) false, []⟩ = some sf ∧ (sf.list.map fun n : Nat => (n : Int)).map (finB l.length) = res ∧ sum0.b = cst := by
  unfold bestP at h
  cases h1 : assignP (tableP l w) (List.replicate (l.length + w.length) false) with
  | none => simp only [h1] at h; cases h
  | some x =>
    obtain ⟨o0, sum0⟩ := x
    simp only [h1] at h
    cases h2 : bestI (tableP l w) (l.length + w.length) w.length 0 ⟨sum0, List.replicate (l.length + w.length) false, []⟩ with
    | none => simp only [h2] at h; cases h
    | some s =>
      simp only [h2] at h
      cases h
      exact ⟨o0, sum0, s, rfl, h2, rfl, rfl⟩
theorem bestI_succ {t : List (List Pr)} {m f i : Nat} {s sf : Bs} (h : bestI t m (f + 1) i s = some sf) : ∃ s2, bestJ t i m 0 s = some s2 ∧ bestI t m f (i + 1) s2 = some sf := by
  rw [bestI] at h
  cases h1 : bestJ t i m 0 s with
  | none => simp only [h1] at h; cases h
  | some s2 => simp only [h1] at h; exact ⟨s2, rfl, h⟩
theorem bestJ_skip {t : List (List Pr)} {f i j : Nat} {s s2 : Bs} (h : bestJ t i (f + 1) j s = some s2) (hs : skipB t i j s.taken = true) : bestJ t i f (j + 1) s = some s2 := by
  rw [bestJ, if_pos hs] at h; exact h
theorem bestJ_take {t : List (List Pr)} {f i j : Nat} {s s2 : Bs} (h : bestJ t i (f + 1) j s = some s2) (hs : skipB t i j s.taken = false) : ∃ o rest, assignP (t.drop (i + 1)) (s.taken.set j true) = some (o, rest) ∧ ((tbl t i j).add rest = s.sum → s2 = ⟨rest, s.taken.set j true, s.list ++ [j]⟩) ∧ (¬ (tbl t i j).add rest = s.sum → bestJ t i f (j + 1) ⟨s.sum, (s.taken.set j true).set j false, s.list⟩ = some s2) := by
  rw [bestJ, if_neg (by rw [hs]; decide)] at h
  cases h1 : assignP (t.drop (i + 1)) (s.taken.set j true) with
  | none => simp only [h1] at h; cases h
  | some x =>
    obtain ⟨o, rest⟩ := x
    simp only [h1] at h
    refine ⟨o, rest, rfl, fun he => ?_, fun he => ?_⟩
    · rw [if_pos he] at h; exact (Option.some.inj h).symm
    · rw [if_neg he] at h; exact h
theorem rowP_len (l : List Pipe) (n i : Nat) (x : Wish) : (rowP l n i x).length = l.length + n := by simp [rowP]
theorem tableP_len (l : List Pipe) (w : List Wish) : (tableP l w).length = w.length := by simp [tableP]
theorem tableP_row {l : List Pipe} {w : List Wish} {ps : List Pr} (h : ps ∈ tableP l w) : ps.length = l.length + w.length := by
  unfold tableP at h
  obtain ⟨i, _, rfl⟩ := List.mem_map.1 h
  exact rowP_len _ _ _ _
end Iv
end Go.Proofs.Yteiopfefmphhaaa

set_option autoImplicit false
set_option linter.unusedVariables false
namespace Go.Proofs.Yteiopfefmphhaaa
open Go.Gv
open Go.RowKit
open Iv
set_option maxRecDepth 100000 in
set_option maxHeartbeats 8000000 in
theorem Best_ok (l : List Pipe) (w : List Wish) (a b : Option Addr) (ca cb : Nat) (w0 : World) (hl : OldSl w0 [] a l.length 3 (l.flatMap Pipe.cells)) (hw : OldSl w0 [] b w.length 5 (w.flatMap Wish.cells)) (hlb : l.length ≤ 140737488355328) (hwb : w.length ≤ 140737488355328) (res : List Int) (cst : Int) (hres : bestF l w = some (res, cst)) : Sp Try.prog 14 [.slice a l.length ca, .slice b w.length cb] w0 [] (fun v L => ∃ (r : Option Nat) (cp : Nat), v = .tuple #[.slice (rowA r) res.length cp, .int .i64 cst, .int .i64 (checkP l w)] ∧ L = [.row 3 1 r res.length cp (res.map intV)]) := by
  refine spec_enter Try.func14 rfl Try.ntmps14 rfl (Own.refl _) ?_
  simp only [argEnv]
  refine gc_seq ?_
  refine gc_region ?_
  refine gl_op (op_rd rfl (rd_assign rfl) ?_)
  refine gl_op (op_rd rfl (rd_assign rfl) ?_)
  refine gl_op (op_rd rfl (rd_assign rfl) ?_)
  refine gl_nil ?_
  refine gx_then ?_
  refine gc_seq ?_
  refine gc_seq ?_
  refine gc_region ?_
  refine gl_op (op_rd rfl (rd_move rfl) ?_)
  refine gl_op (op_rd rfl (rd_move rfl) ?_)
  refine gl_op (op_call rfl (vf := []) (vc := []) rfl rfl Try.call11 (fun w1 ho => Check_ok l w a b ca cb w1 (hl.at ho) (hw.at ho) hlb hwb) ?_)
  rintro _ _ ⟨rfl, rfl⟩
  refine gl_op (op_rd rfl (rd_assign rfl) ?_)
  refine gl_nil ?_
  refine gx_then ?_
  refine gc_seq ?_
  refine gc_region ?_
  refine gl_op (op_rd rfl (rd_move rfl) ?_)
  refine gl_op (op_rd rfl (rd_neq rfl rfl) (gk_dec (fun h25 => ?_) (fun h25 => ?_)))
  · skip
    have hck : checkP l w ≠ 0 := by omega
    refine gl_nil ?_
    refine gx_then ?_
    refine gc_cond_t rfl ?_
    refine gc_seq ?_
    refine gk_nil 3 1 ?_
    refine gc_region ?_
    refine gl_op (op_rd rfl (rd_move rfl) ?_)
    refine gl_op (op_rd rfl (rd_assign rfl) ?_)
    refine gl_op (op_rd rfl (rd_assign rfl) ?_)
    refine gl_op (op_rd rfl (rd_assign rfl) ?_)
    refine gl_nil ?_
    refine gx_then ?_
    refine gc_ret ?_
    refine gx_then_ret ?_
    refine gx_ret3 (.inl rfl) Try.results14 rfl rfl rfl [0] (by decide) ?_
    rw [bestF, if_neg hck] at hres
    cases hres
    exact ⟨none, 0, rfl, rfl⟩
  · skip
    have hck : checkP l w = 0 := by omega
    have hd := checkP_ok hck
    have hln := hd.ln
    have hwn := hd.wn
    rw [bestF, if_pos hck] at hres
    obtain ⟨o0, sum0, sf, hres1, hgo0, hfin, hcst⟩ := bestP_some hres
    rw [hck]
    refine gl_nil ?_
    refine gx_then ?_
    refine gc_cond_f rfl ?_
    refine gc_skip ?_
    refine gx_then ?_
    refine gc_seq ?_
    refine gc_region ?_
    refine gl_op (op_rd rfl (rd_move rfl) ?_)
    refine gl_op (op_rd rfl (rd_move rfl) ?_)
    refine gl_op (op_call rfl (vf := []) (vc := []) rfl rfl Try.call29 (fun w1 ho => table_ok l w a b ca cb w1 (hl.at ho) (hw.at ho) hd) ?_)
    rintro _ _ ⟨tb, r65, c65, htb, rfl, rfl⟩
    refine gl_op (op_rd rfl (rd_assign rfl) ?_)
    refine gl_nil ?_
    refine gx_then ?_
    refine gk_rebase [] (by decide) (fun w1 hob => ?_)
    obtain ⟨tp, htpl, htps, ht, hcap⟩ := own_tb (tb := tb) (r := r65) (cp := c65) hob (by simp) (fun x hx => by simp [hx])
    replace hl := hl.at hob
    replace hw := hw.at hob
    change GK _ _ _ w1 [] []
    rw [← htpl]
    have htpt : tp.map PRow.ps = tableP l w := htps.trans htb
    have htpn : tp.length = w.length := by have := congrArg List.length htpt; rwa [List.length_map, tableP_len] at this
    have hqm : ∀ q ∈ tp, q.ps.length = l.length + w.length := fun q hq => tableP_row (by rw [← htpt]; exact List.mem_map.2 ⟨q, hq, rfl⟩)
    rw [← htpt] at hres1
    refine gc_seq ?_
    refine gc_region ?_
    refine gl_op (op_rd rfl (rd_move rfl) ?_)
    refine gl_op (op_rd rfl (rd_lenSlice Try.underlying22 rfl) ?_)
    refine gl_op (op_rd rfl (rd_move rfl) ?_)
    refine gl_op (op_rd rfl (rd_lenSlice Try.underlying23 rfl) ?_)
    refine gl_op (op_rd rfl (by first | exact rd_addN rfl rfl (by omega) | exact rd_add rfl rfl (by omega) (by omega)) ?_)
    refine gl_op (op_makeSlice (l.length + w.length) Try.underlying48 ty_4 rfl rfl rfl (by omega) (by omega) (by omega) (by omega) (fun b35 => ?_))
    refine gl_op (op_rd rfl (rd_assign rfl) ?_)
    refine gl_nil ?_
    refine gx_then ?_
    refine gc_seq ?_
    rw [made_one _ rfl, show List.replicate (l.length + w.length) (Value.bool false) = (List.replicate (l.length + w.length) false).map boolV by simp]
    refine gc_region ?_
    refine gl_op (op_rd rfl (rd_move rfl) ?_)
    refine gl_op (op_rd rfl (rd_move rfl) ?_)
    refine gl_op (op_call rfl (vf := []) (vc := []) rfl rfl Try.call30 (fun w2 ho => assign_ok' tp (rowA r65) c65 (List.replicate (l.length + w.length) false) (rowA (some b35)) (l.length + w.length) (l.length + w.length) o0 sum0 tp.length (l.length + w.length) w2 (ht.at ho) (ho.rowSl 0 rfl) rfl (by simp) hqm (by simp) (by omega) (by omega) hres1) ?_)
    rintro _ _ ⟨r39, c39, rfl, rfl⟩
    refine gl_op (op_rd rfl (rd_move rfl) ?_)
    refine gl_op (op_rd rfl (rd_extract rfl rfl) ?_)
    refine gl_op (op_rd rfl (rd_extract rfl rfl) ?_)
    refine gl_op (op_alloc ty_62 rfl rfl (fun b11 => ?_))
    refine gl_op (op_rd rfl (rd_assign rfl) ?_)
    first | refine gl_op (op_storeAgg 0 ty_62 rfl rfl rfl rfl rfl rfl (by first | rfl | (simp only [List.set_cons_succ, List.set_cons_zero]; exact rfl)) ?_) | refine gl_op (op_storeRowAgg 1 ty_62 rfl rfl rfl rfl rfl (by simp; omega) (by first | rfl | (simp only [List.set_cons_succ, List.set_cons_zero]; exact rfl)) ?_) | refine gl_op (op_storeRowAgg 2 ty_62 rfl rfl rfl rfl rfl (by simp; omega) (by first | rfl | (simp only [List.set_cons_succ, List.set_cons_zero]; exact rfl)) ?_)
    refine gl_nil ?_
    refine gx_then ?_
    refine gc_seq ?_
    refine gc_region ?_
    refine gl_op (op_rd rfl (rd_loadAgg Try.underlying62 rfl ty_62 rfl (by first | exact cs_blk 0 (off := 0) (k := 2) rfl rfl | exact cs_old (by assumption) (by simp)) rfl) ?_)
    refine gl_op (op_alloc ty_62 rfl rfl (fun b12 => ?_))
    first | refine gl_op (op_storeAgg 0 ty_62 rfl rfl rfl rfl rfl rfl (by first | rfl | (simp only [List.set_cons_succ, List.set_cons_zero]; exact rfl)) ?_) | refine gl_op (op_storeAgg 1 ty_62 rfl rfl rfl rfl rfl rfl (by first | rfl | (simp only [List.set_cons_succ, List.set_cons_zero]; exact rfl)) ?_) | refine gl_op (op_storeRowAgg 2 ty_62 rfl rfl rfl rfl rfl (by simp; omega) (by first | rfl | (simp only [List.set_cons_succ, List.set_cons_zero]; exact rfl)) ?_) | refine gl_op (op_storeRowAgg 3 ty_62 rfl rfl rfl rfl rfl (by simp; omega) (by first | rfl | (simp only [List.set_cons_succ, List.set_cons_zero]; exact rfl)) ?_)
    refine gl_nil ?_
    refine gx_then ?_
    refine gc_seq ?_
    refine gc_region ?_
    refine gl_op (op_rd rfl (rd_assign rfl) ?_)
    refine gl_nil ?_
    refine gx_then ?_
    refine gc_seq ?_
    refine gc_seq ?_
    refine gc_region ?_
    refine gl_op (op_rd rfl (rd_move rfl) ?_)
    refine gl_op (op_rd rfl (rd_lenSlice Try.underlying23 rfl) ?_)
    refine gl_op (op_rd rfl (rd_move rfl) ?_)
    refine gl_nil ?_
    refine gx_then ?_
    refine gc_block ?_
    refine gk_nil 3 1 ?_
    rw [← htpt] at hgo0
    refine gc_loopF (ι := Nat × Bs × Option Nat × Nat) [(0, _), (8, _), (9, _), (11, _), (12, _), (44, _)] [_] (fun j => j.1 ≤ w.length ∧ bestI (tp.map PRow.ps) (l.length + w.length) (w.length - j.1) j.1 j.2.1 = some sf ∧ j.2.1.taken.length = (l.length + w.length) ∧ j.2.1.list.length ≤ j.1) (fun j Fr0 => ((45, natV j.1) :: (13, .slice (rowA j.2.2.1) j.2.1.list.length j.2.2.2) :: Fr0)) (fun j Fr0 => (.row 3 1 j.2.2.1 j.2.1.list.length j.2.2.2 (j.2.1.list.map natV) :: .row 4 1 (some b35) (l.length + w.length) (l.length + w.length) (j.2.1.taken.map boolV) :: .blk b11 j.2.1.sum.cells 62 :: Fr0)) (fun j => w.length - j.1) (0, ⟨sum0, List.replicate (l.length + w.length) false, []⟩, none, 0) (⟨Nat.zero_le _, hgo0, by simp, Nat.le_refl _⟩) ⟨rfl, rfl, rfl, rfl, rfl, rfl, rfl, rfl, trivial⟩ ⟨[0, 4, 2, 1], by decide, rfl⟩ ?_
    rintro ⟨i, s, r13, c13⟩ ⟨hi, hgo, htkl, hsl⟩
    obtain ⟨ssum, stk, sli⟩ := s
    simp only at hi hgo htkl hsl ⊢
    refine gc_seq ?_
    refine gc_region ?_
    refine gl_op (op_rd rfl (rd_lss rfl rfl) (gk_dec (fun hlt => ?_) (fun hlt => ?_)))
    · skip
      obtain ⟨q0, hq0⟩ := get_some (show i < tp.length by omega)
      have hq0m := hqm q0 (List.mem_of_getElem? hq0)
      have hro := ht.r q0 (List.mem_of_getElem? hq0)
      rw [hq0m] at hro
      rw [show w.length - i = (w.length - i - 1) + 1 by omega] at hgo
      obtain ⟨s2, hs2, hgo2⟩ := bestI_succ hgo
      clear hgo
      refine gl_nil ?_
      refine gx_then ?_
      refine gc_seq ?_
      refine gc_cond_t rfl ?_
      refine gc_skip ?_
      refine gx_then ?_
      refine gc_seq ?_
      refine gc_block ?_
      refine gc_seq ?_
      refine gc_region ?_
      refine gl_op (op_rd rfl (rd_move rfl) ?_)
      refine gl_op (op_rd rfl (rd_assign rfl) ?_)
      refine gl_nil ?_
      refine gx_then ?_
      refine gc_seq ?_
      refine gc_region ?_
      refine gl_op (op_rd rfl (rd_move rfl) ?_)
      refine gl_op (op_rd rfl (rd_move rfl) ?_)
      refine gl_op (op_rd rfl (rd_indexOld1 ht.o Try.underlying59 ty_65 rfl rfl (by omega) (by omega)) ?_)
      refine gl_op (op_rd rfl (rd_load Try.underlying65 rfl rfl (ld_slN ht.o (get_row hq0))) ?_)
      refine gl_op (op_rd rfl (rd_lenSlice Try.underlying65 rfl) ?_)
      refine gl_op (op_rd rfl (rd_move rfl) ?_)
      refine gl_nil ?_
      refine gx_then ?_
      refine gc_block ?_
      rw [hq0m]
      refine gc_loopF (ι := Nat × List Bool) [(0, _), (8, _), (9, _), (11, _), (12, _), (14, _), (44, _), (45, _), (51, _), (52, _)] [_, _, _] (fun j => j.1 ≤ (l.length + w.length) ∧ bestJ (tp.map PRow.ps) i ((l.length + w.length) - j.1) j.1 ⟨ssum, j.2, sli⟩ = some s2 ∧ j.2.length = (l.length + w.length)) (fun j Fr0 => ((53, natV j.1) :: (13, .slice (rowA r13) sli.length c13) :: Fr0)) (fun j Fr0 => (.row 4 1 (some b35) (l.length + w.length) (l.length + w.length) (j.2.map boolV) :: Fr0)) (fun j => (l.length + w.length) - j.1) (0, stk) (⟨Nat.zero_le _, hs2, htkl⟩) ⟨rfl, rfl, rfl, rfl, rfl, rfl, rfl, rfl, rfl, rfl, rfl, rfl, trivial⟩ ⟨[1, 0, 2, 3], by decide, rfl⟩ ?_
      rintro ⟨k, tk⟩ ⟨hk, hgj, htl2⟩
      simp only at hk hgj htl2 ⊢
      refine gc_seq ?_
      refine gc_region ?_
      refine gl_op (op_rd rfl (rd_lss rfl rfl) (gk_dec (fun hlt2 => ?_) (fun hlt2 => ?_)))
      · skip
        rw [show l.length + w.length - k = (l.length + w.length - k - 1) + 1 by omega] at hgj
        have htij : tbl (tp.map PRow.ps) i k = gp q0.ps k := tbl_row hq0 k
        refine gl_nil ?_
        refine gx_then ?_
        refine gc_seq ?_
        refine gc_cond_t rfl ?_
        refine gc_skip ?_
        refine gx_then ?_
        refine gc_seq ?_
        refine gc_block ?_
        refine gc_seq ?_
        refine gc_region ?_
        refine gl_op (op_rd rfl (rd_move rfl) ?_)
        refine gl_op (op_rd rfl (rd_indexOld hro Try.underlying65 ty_62 rfl rfl (by omega) (by omega)) ?_)
        refine gl_op (op_rd rfl (rd_loadAgg Try.underlying62 rfl ty_62 rfl (cs_slN hro (flat_drop_get Pr.cells 2 (fun _ => rfl) (gp_get (show k < q0.ps.length by omega)))) rfl) ?_)
        refine gl_op (op_alloc ty_62 rfl rfl (fun b16 => ?_))
        refine gl_op (op_rd rfl (rd_assign rfl) ?_)
        first | refine gl_op (op_storeAgg 0 ty_62 rfl rfl rfl rfl rfl rfl (by first | rfl | (simp only [List.set_cons_succ, List.set_cons_zero]; exact rfl)) ?_) | refine gl_op (op_storeAgg 3 ty_62 rfl rfl rfl rfl rfl rfl (by first | rfl | (simp only [List.set_cons_succ, List.set_cons_zero]; exact rfl)) ?_) | refine gl_op (op_storeAgg 4 ty_62 rfl rfl rfl rfl rfl rfl (by first | rfl | (simp only [List.set_cons_succ, List.set_cons_zero]; exact rfl)) ?_) | refine gl_op (op_storeRowAgg 1 ty_62 rfl rfl rfl rfl rfl (by simp; omega) (by first | rfl | (simp only [List.set_cons_succ, List.set_cons_zero]; exact rfl)) ?_) | refine gl_op (op_storeRowAgg 2 ty_62 rfl rfl rfl rfl rfl (by simp; omega) (by first | rfl | (simp only [List.set_cons_succ, List.set_cons_zero]; exact rfl)) ?_)
        refine gl_nil ?_
        refine gx_then ?_
        refine gc_seq ?_
        refine gc_seq ?_
        refine gc_drawP [0, 1, 2, 3, 4] true 8 rfl ?_
        refine ga_first 0 #[true, false, false, false, false, false, false, false, false] rfl rfl rfl rfl (by kernel_rfl) rfl ⟨[0, 1, 2, 3, 4], by decide, rfl⟩ (qt_rd (rd_move rfl)) ?_
        refine ga_first 1 #[true, true, false, false, false, false, false, false, false] rfl rfl rfl rfl (by kernel_rfl) rfl ⟨[0, 1, 2, 3, 4], by decide, rfl⟩ (qt_rd (rd_move rfl)) ?_
        refine ga_first 2 #[true, true, true, false, false, false, false, false, false] rfl rfl rfl rfl (by kernel_rfl) rfl ⟨[0, 1, 2, 3, 4], by decide, rfl⟩ (qt_rd (rd_indexRow1 1 rfl Try.underlying48 ty_4 rfl rfl (by omega) (by omega))) ?_
        refine ga_first 3 #[true, true, true, true, false, false, false, false, false] rfl rfl rfl rfl (by kernel_rfl) rfl ⟨[0, 1, 2, 3, 4], by decide, rfl⟩ (qt_rd (rd_load Try.underlying4 rfl rfl (ld_rowN 1 rfl (get_bools (by omega))))) ?_
        refine ga_first 4 #[true, true, true, true, true, false, false, false, false] rfl rfl rfl rfl (by kernel_rfl) rfl ⟨[0, 1, 2, 3, 4], by decide, rfl⟩ (qt_rd (rd_move rfl)) ?_
        refine gk_bool (fun htk => ?_) (fun htk => ?_)
        · skip
          have hsk : skipB (tp.map PRow.ps) i k tk = true := by unfold skipB; rw [htk]; rfl
          refine ga_firstN 5 #[true, true, true, true, true, true, false, false, false] rfl rfl rfl rfl rfl rfl (by kernel_rfl) rfl ⟨[0, 1, 2, 3, 4], by decide, rfl⟩ ?_
          refine ga_firstN 6 #[true, true, true, true, true, true, true, false, false] rfl rfl rfl rfl rfl rfl (by kernel_rfl) rfl ⟨[0, 1, 2, 3, 4], by decide, rfl⟩ ?_
          refine ga_firstN 7 #[true, true, true, true, true, true, true, true, false] rfl rfl rfl rfl rfl rfl (by kernel_rfl) rfl ⟨[0, 1, 2, 3, 4], by decide, rfl⟩ ?_
          refine ga_first 8 #[true, true, true, true, true, true, true, true, true] rfl rfl rfl rfl (by kernel_rfl) rfl ⟨[0, 1, 2, 3, 4], by decide, rfl⟩ (qt_rd (rd_pick_t rfl rfl)) ?_
          refine ga_end (by kernel_rfl) (.inr ⟨[0, 1, 2, 3, 4], by decide, rfl⟩) ?_
          refine gx_then ?_
          refine gc_cond_t rfl ?_
          refine gc_exit ?_
          refine gx_then_exit ?_
          refine gx_block_exit ?_
          refine gx_then ?_
          refine gc_region ?_
          refine gl_op (op_rd rfl (by first | exact rd_addN (b := 1) rfl rfl (by omega) | exact rd_add rfl rfl (by omega) (by omega)) ?_)
          refine gl_op (op_rd rfl (rd_move rfl) ?_)
          refine gl_nil ?_
          refine gx_then ?_
          exact gx_cut ((k + 1, tk)) ⟨⟨by simp only; omega, by simp only; rw [show l.length + w.length - (k + 1) = l.length + w.length - k - 1 by omega]; exact (bestJ_skip hgj hsk), htl2⟩, by simp only; omega⟩ ⟨rfl, rfl, rfl, rfl, rfl, rfl, rfl, rfl, rfl, rfl, rfl, rfl, trivial⟩ ⟨[1, 2, 3, 4], by decide, rfl⟩
        · skip
          refine ga_firstY 5 #[true, true, true, true, true, true, false, false, false] rfl rfl rfl rfl rfl rfl (by kernel_rfl) rfl ⟨[0, 1, 2, 3, 4], by decide, rfl⟩ (qt_rd (rd_loadAgg Try.underlying62 rfl ty_62 rfl (by first | exact cs_blk 0 (off := 0) (k := 2) rfl rfl | exact cs_blk 3 (off := 0) (k := 2) rfl rfl | exact cs_blk 4 (off := 0) (k := 2) rfl rfl | exact cs_old (by assumption) (by simp)) rfl)) ?_
          refine ga_firstY 6 #[true, true, true, true, true, true, true, false, false] rfl rfl rfl rfl rfl rfl (by kernel_rfl) rfl ⟨[0, 1, 2, 3, 4], by decide, rfl⟩ (qt_call (vf := []) (vc := []) rfl rfl Try.call31 (fun w1 ho => never_ok w1) (by rintro _ _ ⟨h, _⟩; exact h)) ?_
          refine ga_firstY 7 #[true, true, true, true, true, true, true, true, false] rfl rfl rfl rfl rfl rfl (by kernel_rfl) rfl ⟨[0, 1, 2, 3, 4], by decide, rfl⟩ (qt_rd (rd_eqlArr2 rfl Try.underlying62 Try.underlying2 ty_2 rfl rfl)) ?_
          refine ga_first 8 #[true, true, true, true, true, true, true, true, true] rfl rfl rfl rfl (by kernel_rfl) rfl ⟨[0, 1, 2, 3, 4], by decide, rfl⟩ (qt_rd (rd_pick_f rfl rfl)) ?_
          refine ga_end (by kernel_rfl) (.inr ⟨[0, 1, 2, 3, 4], by decide, rfl⟩) ?_
          refine gx_then ?_
          refine gc_cond rfl (fun h66 => ?_) (fun h66 => ?_)
          · skip
            have hsk : skipB (tp.map PRow.ps) i k tk = true := by unfold skipB; rw [htij, decide_eq_true (pr_eq.2 (of_decide_eq_true h66)), Bool.or_true]
            refine gc_exit ?_
            refine gx_then_exit ?_
            refine gx_block_exit ?_
            refine gx_then ?_
            refine gc_region ?_
            refine gl_op (op_rd rfl (by first | exact rd_addN (b := 1) rfl rfl (by omega) | exact rd_add rfl rfl (by omega) (by omega)) ?_)
            refine gl_op (op_rd rfl (rd_move rfl) ?_)
            refine gl_nil ?_
            refine gx_then ?_
            exact gx_cut ((k + 1, tk)) ⟨⟨by simp only; omega, by simp only; rw [show l.length + w.length - (k + 1) = l.length + w.length - k - 1 by omega]; exact (bestJ_skip hgj hsk), htl2⟩, by simp only; omega⟩ ⟨rfl, rfl, rfl, rfl, rfl, rfl, rfl, rfl, rfl, rfl, rfl, rfl, trivial⟩ ⟨[1, 2, 3, 4], by decide, rfl⟩
          · skip
            have hsk : skipB (tp.map PRow.ps) i k tk = false := by unfold skipB; rw [htij, htk, decide_eq_false (fun he => absurd (pr_eq.1 he) (of_decide_eq_false h66))]; rfl
            obtain ⟨o1, rest, hres2, hyes, hnot⟩ := bestJ_take hgj hsk
            simp only at hres2 hyes hnot
            rw [htij] at hyes hnot
            rw [← List.map_drop] at hres2
            refine gc_skip ?_
            refine gx_then ?_
            refine gc_seq ?_
            refine gc_region ?_
            refine gl_op (op_rd rfl (rd_move rfl) ?_)
            refine gl_op (op_rd rfl (rd_move rfl) ?_)
            refine gl_op (op_rd rfl (rd_indexRow1 1 rfl Try.underlying48 ty_4 rfl rfl (by omega) (by omega)) ?_)
            refine gl_op (op_storeRowE 1 ty_4 rfl rfl rfl rfl (by simp; omega) (setB tk k true) (by first | rfl | (simp only [List.set_cons_succ, List.set_cons_zero]; exact rfl)) ?_)
            refine gl_nil ?_
            refine gx_then ?_
            refine gc_seq ?_
            refine gc_seq ?_
            refine gc_region ?_
            refine gl_op (op_rd rfl (rd_move rfl) ?_)
            refine gl_op (op_rd rfl (rd_move rfl) ?_)
            refine gl_op (op_rd rfl (by first | exact rd_addN (b := 1) rfl rfl (by omega) | exact rd_add rfl rfl (by omega) (by omega)) ?_)
            refine gl_op (op_rd rfl (rd_sliceLo Try.underlying59 ty_65 rfl rfl (by omega) (by omega)) ?_)
            refine gl_op (op_rd rfl (rd_move rfl) ?_)
            refine gl_op (op_call rfl (vf := []) (vc := []) rfl rfl Try.call30 (fun w2 ho => assign_ok' (tp.drop (i + 1)) (subA (rowA r65) c65 (i + 1) 1) (c65 - (i + 1)) (tk.set k true) (rowA (some b35)) (l.length + w.length) (l.length + w.length) o1 rest (tp.length - (i + 1)) (l.length + w.length) w2 ((ht.drop (i + 1) (by omega) hcap).at ho) (ho.rowSl 1 rfl) (by simp) (by simp [htl2]) (fun q hq => hqm q (List.mem_of_mem_drop hq)) (by simp [htl2]) (by simp; omega) (by omega) hres2) ?_)
            rintro _ _ ⟨r76, c76, rfl, rfl⟩
            refine gl_op (op_rd rfl (rd_move rfl) ?_)
            refine gl_op (op_rd rfl (rd_extract rfl rfl) ?_)
            refine gl_op (op_rd rfl (rd_extract rfl rfl) ?_)
            refine gl_op (op_alloc ty_62 rfl rfl (fun b18 => ?_))
            refine gl_op (op_rd rfl (rd_assign rfl) ?_)
            first | refine gl_op (op_storeAgg 0 ty_62 rfl rfl rfl rfl rfl rfl (by first | rfl | (simp only [List.set_cons_succ, List.set_cons_zero]; exact rfl)) ?_) | refine gl_op (op_storeAgg 2 ty_62 rfl rfl rfl rfl rfl rfl (by first | rfl | (simp only [List.set_cons_succ, List.set_cons_zero]; exact rfl)) ?_) | refine gl_op (op_storeAgg 5 ty_62 rfl rfl rfl rfl rfl rfl (by first | rfl | (simp only [List.set_cons_succ, List.set_cons_zero]; exact rfl)) ?_) | refine gl_op (op_storeAgg 6 ty_62 rfl rfl rfl rfl rfl rfl (by first | rfl | (simp only [List.set_cons_succ, List.set_cons_zero]; exact rfl)) ?_) | refine gl_op (op_storeRowAgg 1 ty_62 rfl rfl rfl rfl rfl (by simp; omega) (by first | rfl | (simp only [List.set_cons_succ, List.set_cons_zero]; exact rfl)) ?_) | refine gl_op (op_storeRowAgg 3 ty_62 rfl rfl rfl rfl rfl (by simp; omega) (by first | rfl | (simp only [List.set_cons_succ, List.set_cons_zero]; exact rfl)) ?_) | refine gl_op (op_storeRowAgg 4 ty_62 rfl rfl rfl rfl rfl (by simp; omega) (by first | rfl | (simp only [List.set_cons_succ, List.set_cons_zero]; exact rfl)) ?_)
            refine gl_nil ?_
            refine gx_then ?_
            refine gc_seq ?_
            refine gc_drawP [0, 1, 2, 3, 4, 5, 6] true 4 rfl ?_
            refine ga_first 0 #[true, false, false, false, false] rfl rfl rfl rfl (by kernel_rfl) rfl ⟨[0, 1, 2, 3, 4, 5, 6], by decide, rfl⟩ (qt_rd (rd_loadAgg Try.underlying62 rfl ty_62 rfl (by first | exact cs_blk 0 (off := 0) (k := 2) rfl rfl | exact cs_blk 2 (off := 0) (k := 2) rfl rfl | exact cs_blk 5 (off := 0) (k := 2) rfl rfl | exact cs_blk 6 (off := 0) (k := 2) rfl rfl | exact cs_old (by assumption) (by simp)) rfl)) ?_
            refine ga_first 1 #[true, true, false, false, false] rfl rfl rfl rfl (by kernel_rfl) rfl ⟨[0, 1, 2, 3, 4, 5, 6], by decide, rfl⟩ (qt_rd (rd_loadAgg Try.underlying62 rfl ty_62 rfl (by first | exact cs_blk 0 (off := 0) (k := 2) rfl rfl | exact cs_blk 2 (off := 0) (k := 2) rfl rfl | exact cs_blk 5 (off := 0) (k := 2) rfl rfl | exact cs_blk 6 (off := 0) (k := 2) rfl rfl | exact cs_old (by assumption) (by simp)) rfl)) ?_
            refine ga_first 2 #[true, true, true, false, false] rfl rfl rfl rfl (by kernel_rfl) rfl ⟨[0, 1, 2, 3, 4, 5, 6], by decide, rfl⟩ (qt_call (vf := []) (vc := []) rfl rfl Try.call32 (fun w1 ho => plus_ok (gp q0.ps k) rest w1) (by rintro _ _ ⟨h, _⟩; exact h)) ?_
            refine ga_first 3 #[true, true, true, true, false] rfl rfl rfl rfl (by kernel_rfl) rfl ⟨[0, 1, 2, 3, 4, 5, 6], by decide, rfl⟩ (qt_rd (rd_loadAgg Try.underlying62 rfl ty_62 rfl (by first | exact cs_blk 0 (off := 0) (k := 2) rfl rfl | exact cs_blk 2 (off := 0) (k := 2) rfl rfl | exact cs_blk 5 (off := 0) (k := 2) rfl rfl | exact cs_blk 6 (off := 0) (k := 2) rfl rfl | exact cs_old (by assumption) (by simp)) rfl)) ?_
            refine ga_first 4 #[true, true, true, true, true] rfl rfl rfl rfl (by kernel_rfl) rfl ⟨[0, 1, 2, 3, 4, 5, 6], by decide, rfl⟩ (qt_rd (rd_eqlArr2 rfl Try.underlying62 Try.underlying2 ty_2 rfl rfl)) ?_
            refine ga_end (by kernel_rfl) (.inr ⟨[0, 1, 2, 3, 4, 5, 6], by decide, rfl⟩) ?_
            refine gx_then ?_
            refine gc_cond rfl (fun h83 => ?_) (fun h83 => ?_)
            · skip
              have hse := hyes (pr_eq.2 (of_decide_eq_true h83))
              subst hse
              refine gc_seq ?_
              refine gc_region ?_
              refine gl_op (op_rd rfl (rd_loadAgg Try.underlying62 rfl ty_62 rfl (by first | exact cs_blk 0 (off := 0) (k := 2) rfl rfl | exact cs_blk 2 (off := 0) (k := 2) rfl rfl | exact cs_blk 5 (off := 0) (k := 2) rfl rfl | exact cs_blk 6 (off := 0) (k := 2) rfl rfl | exact cs_old (by assumption) (by simp)) rfl) ?_)
              first | refine gl_op (op_storeAgg 0 ty_62 rfl rfl rfl rfl rfl rfl (by first | rfl | (simp only [List.set_cons_succ, List.set_cons_zero]; exact rfl)) ?_) | refine gl_op (op_storeAgg 2 ty_62 rfl rfl rfl rfl rfl rfl (by first | rfl | (simp only [List.set_cons_succ, List.set_cons_zero]; exact rfl)) ?_) | refine gl_op (op_storeAgg 5 ty_62 rfl rfl rfl rfl rfl rfl (by first | rfl | (simp only [List.set_cons_succ, List.set_cons_zero]; exact rfl)) ?_) | refine gl_op (op_storeAgg 6 ty_62 rfl rfl rfl rfl rfl rfl (by first | rfl | (simp only [List.set_cons_succ, List.set_cons_zero]; exact rfl)) ?_) | refine gl_op (op_storeRowAgg 1 ty_62 rfl rfl rfl rfl rfl (by simp; omega) (by first | rfl | (simp only [List.set_cons_succ, List.set_cons_zero]; exact rfl)) ?_) | refine gl_op (op_storeRowAgg 3 ty_62 rfl rfl rfl rfl rfl (by simp; omega) (by first | rfl | (simp only [List.set_cons_succ, List.set_cons_zero]; exact rfl)) ?_) | refine gl_op (op_storeRowAgg 4 ty_62 rfl rfl rfl rfl rfl (by simp; omega) (by first | rfl | (simp only [List.set_cons_succ, List.set_cons_zero]; exact rfl)) ?_)
              refine gl_nil ?_
              refine gx_then ?_
              refine gc_seq ?_
              refine gc_region ?_
              refine gl_op (op_rd rfl (rd_move rfl) ?_)
              refine gl_op (op_rd rfl (rd_move rfl) ?_)
              refine gl_op (op_buildSlice (sz := 1) rfl rfl (fun _ => bs_39_1_0 _) rfl rfl (fun b87 => ?_))
              refine gl_op (op_appendRow 5 0 Try.underlying39 ty_3 rfl (by decide) rfl rfl rfl rfl rfl (by simp [Value.oneCell']) (by omega) (by omega) (fun _ => (by first | rfl | (simp only [List.set_cons_succ, List.set_cons_zero]; exact rfl))) (fun r88 c88 => ?_))
              refine gl_op (op_rd rfl (rd_assign rfl) ?_)
              refine gl_nil ?_
              refine gx_then ?_
              refine gc_exit ?_
              refine gx_then_exit ?_
              refine gx_block_pass rfl ?_
              refine gx_then_exit ?_
              refine gx_then_exit ?_
              refine gx_block_exit ?_
              refine gx_block ?_
              refine gx_then ?_
              rw [snocN, snoc_len sli k]
              refine gc_region ?_
              refine gl_op (op_rd rfl (by first | exact rd_addN (b := 1) rfl rfl (by omega) | exact rd_add rfl rfl (by omega) (by omega)) ?_)
              refine gl_op (op_rd rfl (rd_move rfl) ?_)
              refine gl_nil ?_
              refine gx_then ?_
              exact gx_cut ((i + 1, ⟨rest, tk.set k true, sli ++ [k]⟩, r88, c88)) ⟨⟨by simp only; omega, by simp only; rw [show w.length - (i + 1) = w.length - i - 1 by omega]; exact hgo2, by simp [htl2], by simp only [List.length_append, List.length_singleton]; omega⟩, by simp only; omega⟩ ⟨rfl, rfl, rfl, rfl, rfl, rfl, rfl, rfl, trivial⟩ ⟨[5, 4, 6, 7], by decide, rfl⟩
            · skip
              have h83n : ¬ (gp q0.ps k).add rest = ssum := fun he => absurd (pr_eq.1 he) (of_decide_eq_false h83)
              refine gc_skip ?_
              refine gx_then ?_
              refine gc_region ?_
              refine gl_op (op_rd rfl (rd_move rfl) ?_)
              refine gl_op (op_rd rfl (rd_move rfl) ?_)
              refine gl_op (op_rd rfl (rd_indexRow1 3 rfl Try.underlying48 ty_4 rfl rfl (by omega) (by omega)) ?_)
              refine gl_op (op_storeRowE 3 ty_4 rfl rfl rfl rfl (by simp; omega) (setB (tk.set k true) k false) (by first | rfl | (simp only [List.set_cons_succ, List.set_cons_zero]; exact rfl)) ?_)
              refine gl_nil ?_
              refine gx_block ?_
              refine gx_then ?_
              refine gc_region ?_
              refine gl_op (op_rd rfl (by first | exact rd_addN (b := 1) rfl rfl (by omega) | exact rd_add rfl rfl (by omega) (by omega)) ?_)
              refine gl_op (op_rd rfl (rd_move rfl) ?_)
              refine gl_nil ?_
              refine gx_then ?_
              exact gx_cut ((k + 1, (tk.set k true).set k false)) ⟨⟨by simp only; omega, by simp only; rw [show l.length + w.length - (k + 1) = l.length + w.length - k - 1 by omega]; exact (hnot h83n), by simp [htl2]⟩, by simp only; omega⟩ ⟨rfl, rfl, rfl, rfl, rfl, rfl, rfl, rfl, rfl, rfl, rfl, rfl, trivial⟩ ⟨[3, 4, 5, 6], by decide, rfl⟩
      · skip
        have hke : k = l.length + w.length := by omega
        rw [hke, Nat.sub_self, bestJ] at hgj
        obtain rfl := Option.some.inj hgj
        refine gl_nil ?_
        refine gx_then ?_
        refine gc_seq ?_
        refine gc_cond_f rfl ?_
        refine gc_exit ?_
        refine gx_then_exit ?_
        refine gx_then_exit ?_
        refine gx_block_exit ?_
        refine gx_block ?_
        refine gx_then ?_
        refine gc_region ?_
        refine gl_op (op_rd rfl (by first | exact rd_addN (b := 1) rfl rfl (by omega) | exact rd_add rfl rfl (by omega) (by omega)) ?_)
        refine gl_op (op_rd rfl (rd_move rfl) ?_)
        refine gl_nil ?_
        refine gx_then ?_
        exact gx_cut ((i + 1, ⟨ssum, tk, sli⟩, r13, c13)) ⟨⟨by simp only; omega, by simp only; rw [show w.length - (i + 1) = w.length - i - 1 by omega]; exact hgo2, htl2, by simp only; omega⟩, by simp only; omega⟩ ⟨rfl, rfl, rfl, rfl, rfl, rfl, rfl, rfl, trivial⟩ ⟨[1, 0, 2, 3], by decide, rfl⟩
    · skip
      have hie : i = w.length := by omega
      rw [hie, Nat.sub_self, bestI] at hgo
      obtain rfl := Option.some.inj hgo
      refine gl_nil ?_
      refine gx_then ?_
      refine gc_seq ?_
      refine gc_cond_f rfl ?_
      refine gc_exit ?_
      refine gx_then_exit ?_
      refine gx_then_exit ?_
      refine gx_block_exit ?_
      refine gx_then ?_
      refine gc_seq ?_
      refine gc_seq ?_
      refine gc_region ?_
      refine gl_op (op_rd rfl (rd_move rfl) ?_)
      refine gl_op (op_rd rfl (rd_lenSlice Try.underlying39 rfl) ?_)
      refine gl_op (op_rd rfl (rd_move rfl) ?_)
      refine gl_nil ?_
      refine gx_then ?_
      refine gc_block ?_
      rw [← natInt sli]
      refine gc_loopF (ι := Nat × List Int) [(0, _), (12, _), (13, _), (94, _), (95, _)] [_, _, _] (fun j => j.1 ≤ sli.length ∧ j.2.length = sli.length ∧ (∀ q, q < j.1 → j.2[q]? = (sli.map fun n : Nat => finB l.length (n : Int))[q]?) ∧ (∀ q, j.1 ≤ q → j.2[q]? = (sli.map fun n : Nat => (n : Int))[q]?)) (fun j Fr0 => ((96, natV j.1) :: Fr0)) (fun j Fr0 => (.row 3 1 r13 sli.length c13 (j.2.map intV) :: Fr0)) (fun j => sli.length - j.1) (0, sli.map fun n : Nat => (n : Int)) (⟨Nat.zero_le _, by simp, fun q h => absurd h (Nat.not_lt_zero q), fun q _ => rfl⟩) ⟨rfl, rfl, rfl, rfl, rfl, rfl, trivial⟩ ⟨[0, 1, 2, 3], by decide, rfl⟩ ?_
      rintro ⟨k, zs⟩ ⟨hk, hzl, hz1, hz2⟩
      simp only at hk hzl hz1 hz2 ⊢
      refine gc_seq ?_
      refine gc_region ?_
      refine gl_op (op_rd rfl (rd_lss rfl rfl) (gk_dec (fun hlt3 => ?_) (fun hlt3 => ?_)))
      · skip
        obtain ⟨x, hx⟩ := get_some (show k < sli.length by omega)
        have hzk : zs[k]? = some (x : Int) := by rw [hz2 k (Nat.le_refl _), List.getElem?_map, hx]; rfl
        refine gl_nil ?_
        refine gx_then ?_
        refine gc_seq ?_
        refine gc_cond_t rfl ?_
        refine gc_skip ?_
        refine gx_then ?_
        refine gc_seq ?_
        refine gc_block ?_
        refine gc_seq ?_
        refine gc_region ?_
        refine gl_op (op_rd rfl (rd_move rfl) ?_)
        refine gl_op (op_rd rfl (rd_indexRow1 0 rfl Try.underlying39 ty_3 rfl rfl (by omega) (by omega)) ?_)
        refine gl_op (op_rd rfl (rd_load Try.underlying3 rfl rfl (ld_rowN 0 rfl (show (zs.map intV)[k]? = some (natV x) by rw [List.getElem?_map, hzk]; rfl))) ?_)
        refine gl_op (op_rd rfl (rd_assign rfl) ?_)
        refine gl_op (op_rd rfl (rd_assign rfl) ?_)
        refine gl_nil ?_
        refine gx_then ?_
        refine gc_seq ?_
        refine gc_region ?_
        refine gl_op (op_rd rfl (rd_move rfl) ?_)
        refine gl_op (op_rd rfl (rd_move rfl) ?_)
        refine gl_op (op_rd rfl (rd_lenSlice Try.underlying22 rfl) ?_)
        refine gl_op (op_rd rfl (rd_geq rfl rfl) (gk_dec (fun h104 => ?_) (fun h104 => ?_)))
        · skip
          have hz1n : ∀ q, q < k + 1 → (zs.set k (-1))[q]? = (sli.map fun n : Nat => finB l.length (n : Int))[q]? := by
            intro q hq
            by_cases hqk : q = k
            · subst hqk
              rw [List.getElem?_map, hx]
              rw [List.getElem?_set_self (by omega)]
              show some (-1) = some (finB l.length (x : Int))
              unfold finB
              rw [if_pos h104]
            · rw [List.getElem?_set_ne (by omega)]
              exact hz1 q (by omega)
          have hz2n : ∀ q, k + 1 ≤ q → (zs.set k (-1))[q]? = (sli.map fun n : Nat => (n : Int))[q]? := by
            intro q hq
            rw [List.getElem?_set_ne (by omega)]
            exact hz2 q (by omega)
          refine gl_nil ?_
          refine gx_then ?_
          refine gc_cond_t rfl ?_
          refine gc_region ?_
          refine gl_op (op_rd rfl (rd_move rfl) ?_)
          refine gl_op (op_rd rfl (rd_move rfl) ?_)
          refine gl_op (op_rd rfl (rd_indexRow1 0 rfl Try.underlying39 ty_3 rfl rfl (by omega) (by omega)) ?_)
          refine gl_op (op_storeRowE 0 ty_3 rfl rfl rfl rfl (by simp; omega) (show (zs.map intV).set k (intV (-1)) = (zs.set k (-1)).map intV by rw [List.map_set]) (by first | rfl | (simp only [List.set_cons_succ, List.set_cons_zero]; exact rfl)) ?_)
          refine gl_nil ?_
          refine gx_block ?_
          refine gx_then ?_
          refine gc_region ?_
          refine gl_op (op_rd rfl (by first | exact rd_addN (b := 1) rfl rfl (by omega) | exact rd_add rfl rfl (by omega) (by omega)) ?_)
          refine gl_op (op_rd rfl (rd_move rfl) ?_)
          refine gl_nil ?_
          refine gx_then ?_
          exact gx_cut ((k + 1, zs.set k (-1))) ⟨⟨by simp only; omega, by simp [hzl], hz1n, hz2n⟩, by simp only; omega⟩ ⟨rfl, rfl, rfl, rfl, rfl, rfl, trivial⟩ ⟨[0, 1, 2, 3], by decide, rfl⟩
        · skip
          have hz1n : ∀ q, q < k + 1 → (zs)[q]? = (sli.map fun n : Nat => finB l.length (n : Int))[q]? := by
            intro q hq
            by_cases hqk : q = k
            · subst hqk
              rw [List.getElem?_map, hx]
              rw [hzk]
              show some (x : Int) = some (finB l.length (x : Int))
              unfold finB
              rw [if_neg h104]
            · exact hz1 q (by omega)
          have hz2n : ∀ q, k + 1 ≤ q → (zs)[q]? = (sli.map fun n : Nat => (n : Int))[q]? := by
            intro q hq
            exact hz2 q (by omega)
          refine gl_nil ?_
          refine gx_then ?_
          refine gc_cond_f rfl ?_
          refine gc_skip ?_
          refine gx_block ?_
          refine gx_then ?_
          refine gc_region ?_
          refine gl_op (op_rd rfl (by first | exact rd_addN (b := 1) rfl rfl (by omega) | exact rd_add rfl rfl (by omega) (by omega)) ?_)
          refine gl_op (op_rd rfl (rd_move rfl) ?_)
          refine gl_nil ?_
          refine gx_then ?_
          exact gx_cut ((k + 1, zs)) ⟨⟨by simp only; omega, by simp [hzl], hz1n, hz2n⟩, by simp only; omega⟩ ⟨rfl, rfl, rfl, rfl, rfl, rfl, trivial⟩ ⟨[0, 1, 2, 3], by decide, rfl⟩
      · skip
        have hzs : zs = res := by
          rw [← hfin, List.map_map]
          apply List.ext_getElem?
          intro q
          by_cases hq : q < k
          · exact hz1 q hq
          · rw [List.getElem?_eq_none (by omega), List.getElem?_eq_none (by simp; omega)]
        rw [hzs]
        refine gl_nil ?_
        refine gx_then ?_
        refine gc_seq ?_
        refine gc_cond_f rfl ?_
        refine gc_exit ?_
        refine gx_then_exit ?_
        refine gx_then_exit ?_
        refine gx_block_exit ?_
        refine gx_then ?_
        refine gc_seq ?_
        refine gc_drawP [0, 1, 2, 3] true 5 rfl ?_
        refine ga_first 0 #[true, false, false, false, false, false] rfl rfl rfl rfl (by kernel_rfl) rfl ⟨[0, 1, 2, 3], by decide, rfl⟩ (qt_rd (rd_move rfl)) ?_
        refine ga_first 1 #[true, true, false, false, false, false] rfl rfl rfl rfl (by kernel_rfl) rfl ⟨[0, 1, 2, 3], by decide, rfl⟩ (qt_rd (rd_indexArr Try.underlying62 ty_2 rfl rfl (by omega) (by omega))) ?_
        refine ga_first 2 #[true, true, true, false, false, false] rfl rfl rfl rfl (by kernel_rfl) rfl ⟨[0, 1, 2, 3], by decide, rfl⟩ (qt_rd (rd_load Try.underlying2 rfl rfl (by first | exact ld_blk 2 rfl rfl | exact ld_blk 3 rfl rfl | exact ld_rowN 0 rfl (get_nats (by omega)) | exact ld_rowN 1 rfl (get_nats (by omega)) | exact ld_slN (by assumption) (get_nats (by omega)) | exact ld_rowN 0 rfl (get_ints (by omega)) | exact ld_rowN 1 rfl (get_ints (by omega)) | exact ld_slN (by assumption) (get_ints (by omega)) | exact ld_old (by assumption) (by simp) | exact ld_cells (by assumption) (by simp) rfl))) ?_
        refine ga_first 3 #[true, true, true, true, false, false] rfl rfl rfl rfl (by kernel_rfl) rfl ⟨[0, 1, 2, 3], by decide, rfl⟩ (qt_rd (rd_assign rfl)) ?_
        refine ga_first 4 #[true, true, true, true, true, false] rfl rfl rfl rfl (by kernel_rfl) rfl ⟨[0, 1, 2, 3], by decide, rfl⟩ (qt_rd (rd_assign rfl)) ?_
        refine ga_first 5 #[true, true, true, true, true, true] rfl rfl rfl rfl (by kernel_rfl) rfl ⟨[0, 1, 2, 3], by decide, rfl⟩ (qt_rd (rd_assign rfl)) ?_
        refine ga_end (by kernel_rfl) (.inr ⟨[0, 1, 2, 3], by decide, rfl⟩) ?_
        refine gx_then ?_
        refine gc_ret ?_
        refine gx_ret3 (.inl rfl) Try.results14 rfl rfl rfl [0] (by decide) ?_
        exact ⟨r13, c13, by rw [← hcst, show res.length = sli.length by rw [← hzs]; exact hzl]; exact ⟨rfl, rfl⟩⟩

end Go.Proofs.Yteiopfefmphhaaa

set_option autoImplicit false
set_option linter.unusedVariables false
namespace Go.Proofs.Yteiopfefmphhaaa
open Go.Gv
open Go.RowKit Go.Shelf Go.Sort
def sortRen : Ren := ⟨fun x => match x with | 189 => 36 | 125 => 48 | 257 => 47 | 128 => 60 | 129 => 61 | 294 => 51 | 295 => 52 | 296 => 53 | 297 => 54 | 298 => 55 | 299 => 56 | 216 => 57 | 300 => 58 | 301 => 59 | 328 => 62 | 329 => 63 | 330 => 64 | 331 => 65 | 332 => 66 | 215 => 67 | 343 => 68 | n => n, fun x => match x with | 28 => 39 | 3 => 3 | 46 => 73 | 0 => 0 | 51 => 104 | 53 => 106 | 4 => 4 | 183 => 96 | 182 => 95 | 131 => 101 | 5 => 5 | 9 => 9 | 218 => 107 | 222 => 111 | 228 => 114 | 229 => 115 | n => n, fun x => x⟩
theorem sortLaid : Lays.n189 Try.prog sortRen := { mixed := by kernel_rfl, f125 := Eq.trans Try.func48 (congrArg some (by kernel_rfl)), f128 := Eq.trans Try.func60 (congrArg some (by kernel_rfl)), f129 := Eq.trans Try.func61 (congrArg some (by kernel_rfl)), f189 := Eq.trans Try.func36 (congrArg some (by kernel_rfl)), f215 := Eq.trans Try.func67 (congrArg some (by kernel_rfl)), f216 := Eq.trans Try.func57 (congrArg some (by kernel_rfl)), f257 := Eq.trans Try.func47 (congrArg some (by kernel_rfl)), f294 := Eq.trans Try.func51 (congrArg some (by kernel_rfl)), f295 := Eq.trans Try.func52 (congrArg some (by kernel_rfl)), f296 := Eq.trans Try.func53 (congrArg some (by kernel_rfl)), f297 := Eq.trans Try.func54 (congrArg some (by kernel_rfl)), f298 := Eq.trans Try.func55 (congrArg some (by kernel_rfl)), f299 := Eq.trans Try.func56 (congrArg some (by kernel_rfl)), f300 := Eq.trans Try.func58 (congrArg some (by kernel_rfl)), f301 := Eq.trans Try.func59 (congrArg some (by kernel_rfl)), f328 := Eq.trans Try.func62 (congrArg some (by kernel_rfl)), f329 := Eq.trans Try.func63 (congrArg some (by kernel_rfl)), f330 := Eq.trans Try.func64 (congrArg some (by kernel_rfl)), f331 := Eq.trans Try.func65 (congrArg some (by kernel_rfl)), f332 := Eq.trans Try.func66 (congrArg some (by kernel_rfl)), f343 := Eq.trans Try.func68 (congrArg some (by kernel_rfl)), t0 := Try.underlying0, a0 := Try.isAgg0, z0 := Try.sizeOf0, v0 := Try.zeroValue0, t3 := Try.underlying3, a3 := Try.isAgg3, z3 := Try.sizeOf3, v3 := Try.zeroValue3, t4 := Try.underlying4, a4 := Try.isAgg4, z4 := Try.sizeOf4, v4 := Try.zeroValue4, t5 := Try.underlying5, a5 := Try.isAgg5, z5 := Try.sizeOf5, v5 := Try.zeroValue5, t9 := Try.underlying9, a9 := Try.isAgg9, z9 := Try.sizeOf9, v9 := Try.zeroValue9, t28 := Try.underlying39, a28 := Try.isAgg39, z28 := Try.sizeOf39, v28 := Try.zeroValue39, t46 := Try.underlying73, a46 := Try.isAgg73, z46 := Try.sizeOf73, v46 := Try.zeroValue73, t51 := Try.underlying104, a51 := Try.isAgg104, z51 := Try.sizeOf104, v51 := Try.zeroValue104, t53 := Try.underlying106, a53 := Try.isAgg106, z53 := Try.sizeOf106, v53 := Try.zeroValue106, t131 := Try.underlying101, a131 := Try.isAgg101, z131 := Try.sizeOf101, v131 := Try.zeroValue101, t182 := Try.underlying95, a182 := Try.isAgg95, z182 := Try.sizeOf95, v182 := Try.zeroValue95, t183 := Try.underlying96, a183 := Try.isAgg96, z183 := Try.sizeOf96, v183 := Try.zeroValue96, t218 := Try.underlying107, a218 := Try.isAgg107, z218 := Try.sizeOf107, v218 := Try.zeroValue107, t222 := Try.underlying111, a222 := Try.isAgg111, z222 := Try.sizeOf111, v222 := Try.zeroValue111, t228 := Try.underlying114, a228 := Try.isAgg114, z228 := Try.sizeOf114, v228 := Try.zeroValue114, t229 := Try.underlying115, a229 := Try.isAgg115, z229 := Try.sizeOf115, v229 := Try.zeroValue115 }

end Go.Proofs.Yteiopfefmphhaaa

set_option autoImplicit false
set_option linter.unusedVariables false
namespace Go.Proofs.Yteiopfefmphhaaa
open Go.Gv
open Go.RowKit Go.Sort Go.Shelf
namespace Iv
theorem nodup_len : ∀ (n : Nat) (l : List Nat), l.Nodup → (∀ x ∈ l, x < n) → l.length ≤ n
  | 0, l, _, h => by
    cases l with
    | nil => simp
    | cons x l => exact absurd (h x (by simp)) (by omega)
  | n + 1, l, hd, h => by
    have h1 := nodup_len n (l.erase n) (hd.erase n) (fun x hx => by
      have h2 := (List.Nodup.mem_erase_iff hd).1 hx
      have h3 := h x h2.2
      have h4 := h2.1
      omega)
    have h2 := List.length_erase (a := n) (l := l)
    split at h2 <;> omega
theorem sortNatI (xs : List Nat) : (xs.map fun n : Nat => (n : Int)).mergeSort (fun x y => decide (x ≤ y)) = (xs.mergeSort fun x y => decide (x ≤ y)).map fun n : Nat => (n : Int) := by
  refine (List.map_mergeSort fun a _ b _ => ?_).symm
  rw [decide_eq_decide]; omega
def srt (xs : List Nat) : List Nat := xs.mergeSort fun x y => decide (x ≤ y)
theorem srt_len (xs : List Nat) : (srt xs).length = xs.length := (List.mergeSort_perm _ _).length_eq
/-- the row that has a column -/
def colOf (ol : List Nat) (c : Nat) : Nat := ((List.range ol.length).find? fun j => decide (c = gn ol j)).getD 0
def kvs (ol : List Nat) (k : Nat) : List (Int × Value) := (List.range k).map fun j => ((gn ol j : Int), natV j)
theorem lkv_map (ol : List Nat) (c : Nat) : ∀ xs : List Nat, lkv (c : Int) (xs.map fun j => ((gn ol j : Int), natV j)) = (xs.find? fun j => decide (c = gn ol j)).map natV
  | [] => rfl
  | x :: xs => by
    rw [List.map_cons, lkv, List.find?_cons, lkv_map ol c xs]
    by_cases h : c = gn ol x
    · rw [if_pos (by omega), decide_eq_true h]; rfl
    · rw [if_neg (by omega), decide_eq_false h]
theorem lkv_col (ol : List Nat) (c : Nat) : (lkv (c : Int) (kvs ol ol.length)).getD (.int .i64 0) = natV (colOf ol c) := by
  unfold kvs colOf
  rw [lkv_map]
  cases (List.range ol.length).find? fun j => decide (c = gn ol j) <;> rfl
theorem gn_mem {xs : List Nat} {k : Nat} (h : k < xs.length) : xs[k]? = some (gn xs k) := by simp [gn, h]
theorem gn_inj {ol : List Nat} (h : ol.Nodup) {j k : Nat} (hj : j < ol.length) (hk : k < ol.length) (e : gn ol j = gn ol k) : j = k := by
  have hp := List.pairwise_iff_getElem.1 h
  have e1 : gn ol j = ol[j] := by simp [gn, hj]
  have e2 : gn ol k = ol[k] := by simp [gn, hk]
  rw [e1, e2] at e
  rcases Nat.lt_trichotomy j k with hlt | heq | hgt
  · exact absurd e (hp j k hj hk hlt)
  · exact heq
  · exact absurd e.symm (hp k j hk hj hgt)
theorem kvs_no {ol : List Nat} (h : ol.Nodup) {k : Nat} (hk : k < ol.length) : lkv (gn ol k : Int) (kvs ol k) = none := by
  unfold kvs
  rw [lkv_map]
  have : (List.range k).find? (fun j => decide (gn ol k = gn ol j)) = none := by
    rw [List.find?_eq_none]
    intro j hj
    have hj := List.mem_range.1 hj
    simp only [decide_eq_true_eq]
    intro e
    have := gn_inj h hk (by omega) e
    omega
  rw [this]; rfl
theorem kvs_succ (ol : List Nat) (k : Nat) : kvs ol (k + 1) = kvs ol k ++ [((gn ol k : Int), natV k)] := by
  unfold kvs; rw [List.range_succ, List.map_append]; rfl
def unmetTo (n : Nat) (ol : List Nat) (k : Nat) : List Nat := (List.range k).filter fun j => decide (n ≤ gn ol j)
theorem unmet_succ (n : Nat) (ol : List Nat) (k : Nat) : unmetTo n ol (k + 1) = if n ≤ gn ol k then unmetTo n ol k ++ [k] else unmetTo n ol k := by
  unfold unmetTo
  rw [List.range_succ, List.filter_append]
  by_cases h : n ≤ gn ol k <;> simp [h]
abbrev Ss := List Nat × List Nat
section
variable (l : List Pipe) (ol : List Nat)
def stepS (x : Wish) (s : Ss) (i : Nat) : Ss :=
  if !fits (l.getD i default) x || decide (i ∈ s.2) then s else (if colOf ol i ∈ s.1 then s.1 else s.1 ++ [colOf ol i], s.2 ++ [i])
def passTo (x : Wish) (s : Ss) (q : Nat) : Ss := (List.range q).foldl (stepS l ol x) s
def shortGo (w : List Wish) : Nat → Nat → Ss → Option Ss
  | 0, k, s => if k < s.1.length then none else some s
  | f + 1, k, s => if k < s.1.length then shortGo w f (k + 1) (passTo l ol (w.getD (gn s.1 k) default) s l.length) else some s
end
theorem passTo_succ (l : List Pipe) (ol : List Nat) (x : Wish) (s : Ss) (q : Nat) : passTo l ol x s (q + 1) = stepS l ol x (passTo l ol x s q) q := by
  unfold passTo; rw [List.range_succ, List.foldl_append]; rfl
/-- what is kept while the lists grow -/
structure Sk (n m : Nat) (s : Ss) : Prop where
  nd1 : s.1.Nodup
  nd2 : s.2.Nodup
  lt1 : ∀ x ∈ s.1, x < m
  lt2 : ∀ x ∈ s.2, x < n
theorem Sk.len1 {n m : Nat} {s : Ss} (h : Sk n m s) : s.1.length ≤ m := nodup_len m _ h.nd1 h.lt1
theorem Sk.len2 {n m : Nat} {s : Ss} (h : Sk n m s) : s.2.length ≤ n := nodup_len n _ h.nd2 h.lt2
theorem colOf_lt {ol : List Nat} (h : 0 < ol.length) (c : Nat) : colOf ol c < ol.length := by
  unfold colOf
  cases h1 : (List.range ol.length).find? fun j => decide (c = gn ol j) with
  | none => exact h
  | some j => exact List.mem_range.1 (List.mem_of_find?_eq_some h1)
theorem nd_snoc {xs : List Nat} {a : Nat} (h : xs.Nodup) (ha : ¬ a ∈ xs) : (xs ++ [a]).Nodup := by
  rw [List.nodup_append]
  exact ⟨h, by simp, fun b hb c hc e => by rw [List.mem_singleton] at hc; subst hc; subst e; exact ha hb⟩
theorem Sk.fit {n m : Nat} {s : Ss} (h : Sk n m s) {i : Nat} (hi : i < n) (hn : ¬ i ∈ s.2) : Sk n m (s.1, s.2 ++ [i]) :=
  ⟨h.nd1, nd_snoc h.nd2 hn, h.lt1, fun x hx => by rcases List.mem_append.1 hx with h1 | h1; exact h.lt2 x h1; rw [List.mem_singleton] at h1; omega⟩
theorem Sk.add {n m : Nat} {s : Ss} (h : Sk n m s) {k : Nat} (hk : k < m) (hn : ¬ k ∈ s.1) : Sk n m (s.1 ++ [k], s.2) :=
  ⟨nd_snoc h.nd1 hn, h.nd2, fun x hx => (by rcases List.mem_append.1 hx with h1 | h1; exact h.lt1 x h1; rw [List.mem_singleton] at h1; omega), h.lt2⟩
def shortP (l : List Pipe) (w : List Wish) : Option Ss :=
  match assignP (tableP l w) (List.replicate (l.length + w.length) false) with
  | none => none
  | some x => if x.1.Nodup ∧ x.1.length = w.length then
      match shortGo l x.1 w (w.length + 1) 0 (unmetTo l.length x.1 w.length, []) with
      | none => none
      | some s => some (srt s.1, srt s.2)
    else none
def shortF (l : List Pipe) (w : List Wish) : Option Ss := if checkP l w = 0 then shortP l w else some ([], [])
theorem shortP_some {l : List Pipe} {w : List Wish} {us fs : List Nat} (h : shortP l w = some (us, fs)) : ∃ ol sum s, assignP (tableP l w) (List.replicate (l.length + w.length) false) = some (ol, sum) ∧ ol.Nodup ∧ ol.length = w.length ∧ shortGo l ol w (w.length + 1) 0 (unmetTo l.length ol w.length, []) = some s ∧ srt s.1 = us ∧ srt s.2 = fs := by
  unfold shortP at h
  cases h1 : assignP (tableP l w) (List.replicate (l.length + w.length) false) with
  | none => simp only [h1] at h; cases h
  | some x =>
    obtain ⟨ol, sum⟩ := x
    simp only [h1] at h
    split at h
    · rename_i h2
      cases h3 : shortGo l ol w (w.length + 1) 0 (unmetTo l.length ol w.length, []) with
      | none => simp only [h3] at h; cases h
      | some s => simp only [h3] at h; cases h; exact ⟨ol, sum, s, rfl, h2.1, h2.2, h3, rfl, rfl⟩
    · cases h
theorem unmet_sk {n m : Nat} {ol : List Nat} (h : ol.length = m) : Sk n m (unmetTo n ol m, []) :=
  ⟨List.Pairwise.filter _ List.nodup_range, by simp, fun x hx => List.mem_range.1 (List.mem_filter.1 hx).1, by simp⟩
theorem any_mem (xs : List Nat) (i : Nat) : (xs.any fun x => decide (i = x)) = decide (i ∈ xs) := by
  rw [Bool.eq_iff_iff]; simp
theorem assign_tb {tb : List ORow} {r65 : Option Nat} {c65 b36 N : Nat} {l : List HL} {w0 w : World} {tk : List Bool} {ol : List Nat} {sum : Pr} {t : List (List Pr)} (ho : Own w0 [] w l) (h0 : HL.row 65 1 r65 tb.length c65 (tb.map fun o => o.p.cell) ∈ l) (hr : ∀ x ∈ rowsT tb, x ∈ l) (h36 : HL.row 4 1 (some b36) N N (madeCells (Value.bool false).cells (N * 1)).toList ∈ l) (ht : tb.map ORow.ps = t) (hm : ∀ ps ∈ t, ps.length = N) (hn : t.length ≤ 1000) (hN : N ≤ 1000) (hres : assignP t (List.replicate N false) = some (ol, sum)) :
    Sp Try.prog 30 [.slice (rowA r65) tb.length c65, .slice (rowA (some b36)) N N] w [] (fun v L => ∃ (r : Option Nat) (cp : Nat), v = .tuple #[.slice (rowA r) ol.length cp, sum.val] ∧ L = [.row 3 1 r ol.length cp (ol.map natV)]) := by
  obtain ⟨tp, h1, h2, h3, h4⟩ := own_tb ho h0 hr
  have h5 := (own_row ho h36).1
  rw [made_one _ rfl, show List.replicate N (Value.bool false) = (List.replicate N false).map boolV by simp] at h5
  subst ht
  rw [← h2] at hres hm hn
  exact assign_ok' tp (rowA r65) c65 (List.replicate N false) (rowA (some b36)) N N ol sum tb.length N w h3 h5 h1.symm (by simp) (fun q hq => hm q.ps (List.mem_map.2 ⟨q, hq, rfl⟩)) (by simp) (by simpa using hn) hN hres
end Iv
open Iv
theorem sort_ok (xs : List Nat) (r : Option Nat) (cp : Nat) (S : List Nat) (w0 : World) (hown : Own w0 S w0 [.row 3 1 r xs.length cp (xs.map natV)]) (hlen : xs.length ≤ 1000000000) :
    Sp Try.prog 36 [.slice (rowA r) xs.length cp] w0 S (fun v l => l = [.row 3 1 r xs.length cp ((srt xs).map natV)]) := by
  have h := sort_spec sortLaid (xs.map fun n : Nat => (n : Int)) r cp S w0 (by rw [List.length_map, List.map_map]; exact hown) (by rw [List.length_map]; exact hlen)
  rw [List.length_map, sortNatI, List.map_map] at h
  exact h
end Go.Proofs.Yteiopfefmphhaaa

set_option autoImplicit false
set_option linter.unusedVariables false
namespace Go.Proofs.Yteiopfefmphhaaa
open Go.Gv
open Go.RowKit
open Iv
set_option maxRecDepth 100000 in
set_option maxHeartbeats 1000000 in
theorem index_ok (xs : List Nat) (i : Nat) (a : Option Addr) (cp : Nat) (w0 : World) (hsl : OldSl w0 [] a xs.length 1 (xs.map natV)) (hb : xs.length ≤ 140737488355328) : Sp Try.prog 46 [.slice a xs.length cp, natV i] w0 [] (RV (.int .i64 (idx (fun x => decide (i = x)) xs 0))) := by
  refine spec_enter Try.func46 rfl Try.ntmps46 rfl (Own.refl _) ?_
  simp only [argEnv]
  refine gc_seq ?_
  refine gc_region ?_
  refine gl_op (op_rd rfl (rd_assign rfl) ?_)
  refine gl_nil ?_
  refine gx_then ?_
  refine gc_seq ?_
  refine gc_seq ?_
  refine gc_region ?_
  refine gl_op (op_rd rfl (rd_move rfl) ?_)
  refine gl_op (op_rd rfl (rd_lenSlice Try.underlying39 rfl) ?_)
  refine gl_op (op_rd rfl (rd_move rfl) ?_)
  refine gl_nil ?_
  refine gx_then ?_
  refine gc_block ?_
  refine gc_loopF (ι := Nat) [(0, _), (1, _), (7, _)] [] (fun j => j ≤ xs.length ∧ ∀ q, q < j → decide (i = xs.getD q 0) = false) (fun j Fr0 => ((8, natV j) :: Fr0)) (fun j Fr0 => Fr0) (fun j => xs.length - j) 0 (⟨Nat.zero_le _, fun i h => absurd h (Nat.not_lt_zero i)⟩) ⟨rfl, rfl, rfl, rfl, trivial⟩ ⟨[], by decide, rfl⟩ ?_
  rintro k ⟨hk, hno⟩
  refine gc_seq ?_
  refine gc_region ?_
  refine gl_op (op_rd rfl (rd_lss rfl rfl) (gk_dec (fun hlt => ?_) (fun hlt => ?_)))
  · skip
    obtain ⟨x, hx⟩ := get_some (show k < xs.length by omega)
    have hxd := getD_some (d := 0) hx
    refine gl_nil ?_
    refine gx_then ?_
    refine gc_seq ?_
    refine gc_cond_t rfl ?_
    refine gc_skip ?_
    refine gx_then ?_
    refine gc_seq ?_
    refine gc_block ?_
    refine gc_seq ?_
    refine gc_region ?_
    refine gl_op (op_rd rfl (rd_move rfl) ?_)
    refine gl_op (op_rd rfl (rd_assign rfl) ?_)
    refine gl_nil ?_
    refine gx_then ?_
    refine gc_seq ?_
    refine gc_region ?_
    refine gl_op (op_rd rfl (rd_move rfl) ?_)
    refine gl_op (op_rd rfl (rd_move rfl) ?_)
    refine gl_op (op_rd rfl (rd_move rfl) ?_)
    refine gl_op (op_rd rfl (by first | exact rd_indexOld1 (by assumption) Try.underlying39 ty_3 rfl rfl (by omega) (by omega) | exact rd_index1 Try.underlying39 ty_3 rfl rfl (by omega) (by omega)) ?_)
    refine gl_op (op_rd rfl (rd_load Try.underlying3 rfl rfl (ld_slN hsl (show (xs.map natV)[k]? = some (natV x) by rw [List.getElem?_map, hx]; rfl))) ?_)
    refine gl_op (op_rd rfl (rd_eql rfl rfl) (gk_dec (fun hp => ?_) (fun hp => ?_)))
    · skip
      have hpt : decide (i = xs.getD k 0) = true := by rw [hxd]; exact decide_eq_true (by omega)
      refine gl_nil ?_
      refine gx_then ?_
      refine gc_cond_t rfl ?_
      refine gc_seq ?_
      refine gc_region ?_
      refine gl_op (op_rd rfl (rd_move rfl) ?_)
      refine gl_op (op_rd rfl (rd_assign rfl) ?_)
      refine gl_nil ?_
      refine gx_then ?_
      refine gc_ret ?_
      refine gx_block_ret ?_
      refine gx_then_ret ?_
      refine gx_then_ret ?_
      refine gx_block_ret ?_
      refine gx_then_ret ?_
      refine gx_ret1 (.inl rfl) Try.results46 rfl [] (by decide) ?_
      exact ⟨by rw [idx_stop (fun x => decide (i = x)) 0 xs 0 k (by omega) hno hpt]; simp, rfl⟩
    · skip
      have hpf : decide (i = xs.getD k 0) = false := by rw [hxd]; exact decide_eq_false (by omega)
      refine gl_nil ?_
      refine gx_then ?_
      refine gc_cond_f rfl ?_
      refine gc_skip ?_
      refine gx_block ?_
      refine gx_then ?_
      refine gc_region ?_
      refine gl_op (op_rd rfl (by first | exact rd_addN (b := 1) rfl rfl (by omega) | exact rd_add rfl rfl (by omega) (by omega)) ?_)
      refine gl_op (op_rd rfl (rd_move rfl) ?_)
      refine gl_nil ?_
      refine gx_then ?_
      exact gx_cut (k + 1) ⟨⟨by omega, fun i hi => by rcases Nat.lt_succ_iff_lt_or_eq.1 hi with h | rfl; exact hno i h; exact hpf⟩, by omega⟩ ⟨rfl, rfl, rfl, rfl, trivial⟩ ⟨[], by decide, rfl⟩
  · skip
    refine gl_nil ?_
    refine gx_then ?_
    refine gc_seq ?_
    refine gc_cond_f rfl ?_
    refine gc_exit ?_
    refine gx_then_exit ?_
    refine gx_then_exit ?_
    refine gx_block_exit ?_
    refine gx_then ?_
    refine gc_seq ?_
    refine gc_region ?_
    refine gl_op (op_rd rfl (rd_assign rfl) ?_)
    refine gl_nil ?_
    refine gx_then ?_
    refine gc_ret ?_
    refine gx_ret1 (.inl rfl) Try.results46 rfl [] (by decide) ?_
    exact ⟨by rw [idx_none (fun x => decide (i = x)) 0 xs 0 (fun j hj => hno j (by omega))], rfl⟩

set_option maxRecDepth 100000 in
set_option maxHeartbeats 1000000 in
theorem contains_ok (xs : List Nat) (i : Nat) (a : Option Addr) (cp : Nat) (w0 : World) (hsl : OldSl w0 [] a xs.length 1 (xs.map natV)) (hb : xs.length ≤ 140737488355328) : Sp Try.prog 35 [.slice a xs.length cp, natV i] w0 [] (RV (.bool (decide (i ∈ xs)))) := by
  refine spec_enter Try.func35 rfl Try.ntmps35 rfl (Own.refl _) ?_
  simp only [argEnv]
  refine gc_seq ?_
  refine gc_region ?_
  refine gl_op (op_rd rfl (rd_assign rfl) ?_)
  refine gl_nil ?_
  refine gx_then ?_
  refine gc_seq ?_
  refine gc_region ?_
  refine gl_op (op_rd rfl (rd_move rfl) ?_)
  refine gl_op (op_rd rfl (rd_move rfl) ?_)
  refine gl_op (op_call rfl (vf := []) (vc := []) rfl rfl Try.call46 (fun w ho => index_ok xs i a cp w (hsl.at ho) hb) ?_)
  rintro _ _ ⟨rfl, rfl⟩
  refine gl_op (op_rd rfl (rd_geq rfl rfl) ?_)
  refine gl_op (op_rd rfl (rd_assign rfl) ?_)
  refine gl_nil ?_
  refine gx_then ?_
  refine gc_ret ?_
  refine gx_ret1 (.inl rfl) Try.results35 rfl [] (by decide) ?_
  exact ⟨by rw [← any_mem, idx_any], rfl⟩

set_option maxRecDepth 100000 in
set_option maxHeartbeats 8000000 in
theorem Short_ok (l : List Pipe) (w : List Wish) (a b : Option Addr) (ca cb : Nat) (w0 : World) (hl : OldSl w0 [] a l.length 3 (l.flatMap Pipe.cells)) (hw : OldSl w0 [] b w.length 5 (w.flatMap Wish.cells)) (hlb : l.length ≤ 140737488355328) (hwb : w.length ≤ 140737488355328) (ru rf : List Nat) (hres : shortF l w = some (ru, rf)) : Sp Try.prog 17 [.slice a l.length ca, .slice b w.length cb] w0 [] (fun v L => ∃ (r : Option Nat) (cp : Nat) (r2 : Option Nat) (cp2 : Nat), v = .tuple #[.slice (rowA r) ru.length cp, .slice (rowA r2) rf.length cp2, .int .i64 (checkP l w)] ∧ L = [.row 3 1 r ru.length cp (ru.map natV), .row 3 1 r2 rf.length cp2 (rf.map natV)]) := by
  refine spec_enter Try.func17 rfl Try.ntmps17 rfl (Own.refl _) ?_
  simp only [argEnv]
  refine gc_seq ?_
  refine gc_region ?_
  refine gl_op (op_rd rfl (rd_assign rfl) ?_)
  refine gl_op (op_rd rfl (rd_assign rfl) ?_)
  refine gl_op (op_rd rfl (rd_assign rfl) ?_)
  refine gl_nil ?_
  refine gx_then ?_
  refine gc_seq ?_
  refine gc_seq ?_
  refine gc_region ?_
  refine gl_op (op_rd rfl (rd_move rfl) ?_)
  refine gl_op (op_rd rfl (rd_move rfl) ?_)
  refine gl_op (op_call rfl (vf := []) (vc := []) rfl rfl Try.call11 (fun w1 ho => Check_ok l w a b ca cb w1 (hl.at ho) (hw.at ho) hlb hwb) ?_)
  rintro _ _ ⟨rfl, rfl⟩
  refine gl_op (op_rd rfl (rd_assign rfl) ?_)
  refine gl_nil ?_
  refine gx_then ?_
  refine gc_seq ?_
  refine gc_region ?_
  refine gl_op (op_rd rfl (rd_move rfl) ?_)
  refine gl_op (op_rd rfl (rd_neq rfl rfl) (gk_dec (fun h25 => ?_) (fun h25 => ?_)))
  · skip
    have hck : checkP l w ≠ 0 := by omega
    refine gl_nil ?_
    refine gx_then ?_
    refine gc_cond_t rfl ?_
    refine gc_seq ?_
    refine gk_nil 3 1 ?_
    refine gk_nil 3 1 ?_
    refine gc_region ?_
    refine gl_op (op_rd rfl (rd_move rfl) ?_)
    refine gl_op (op_rd rfl (rd_assign rfl) ?_)
    refine gl_op (op_rd rfl (rd_assign rfl) ?_)
    refine gl_op (op_rd rfl (rd_assign rfl) ?_)
    refine gl_nil ?_
    refine gx_then ?_
    refine gc_ret ?_
    refine gx_then_ret ?_
    refine gx_ret3 (.inl rfl) Try.results17 rfl rfl rfl [1, 0] (by decide) ?_
    rw [shortF, if_neg hck] at hres
    cases hres
    exact ⟨none, 0, none, 0, rfl, rfl⟩
  · skip
    have hck : checkP l w = 0 := by omega
    have hd := checkP_ok hck
    have hln := hd.ln
    have hwn := hd.wn
    rw [shortF, if_pos hck] at hres
    obtain ⟨ol, sum, sf, hres1, hnd, holn, hgo0, hsu, hsf⟩ := shortP_some hres
    rw [hck]
    clear h25
    refine gl_nil ?_
    refine gx_then ?_
    refine gc_cond_f rfl ?_
    refine gc_skip ?_
    refine gx_then ?_
    refine gc_seq ?_
    refine gc_cut (ι := Option Nat × Nat) (fun j => True) (fun j => [(0, .slice a l.length ca), (1, .slice b w.length cb), (8, .slice (rowA j.1) ol.length j.2)]) (fun j => [.row 3 1 j.1 ol.length j.2 (ol.map natV)]) ?_ ?_
    · skip
      refine gc_drawP [] false 15 rfl ?_
      refine ga_first 0 #[true, false, false, false, false, false, false, false, false, false, false, false, false, false, false, false] rfl rfl rfl rfl (by kernel_rfl) rfl ⟨[], by decide, rfl⟩ (qt_rd (rd_move rfl)) ?_
      refine ga_first 1 #[true, true, false, false, false, false, false, false, false, false, false, false, false, false, false, false] rfl rfl rfl rfl (by kernel_rfl) rfl ⟨[], by decide, rfl⟩ (qt_rd (rd_move rfl)) ?_
      refine ga_first 3 #[true, true, false, true, false, false, false, false, false, false, false, false, false, false, false, false] rfl rfl rfl rfl (by kernel_rfl) rfl ⟨[], by decide, rfl⟩ (qt_rd (rd_move rfl)) ?_
      refine ga_first 4 #[true, true, false, true, true, false, false, false, false, false, false, false, false, false, false, false] rfl rfl rfl rfl (by kernel_rfl) rfl ⟨[], by decide, rfl⟩ (qt_rd (rd_lenSlice Try.underlying22 rfl)) ?_
      refine ga_first 5 #[true, true, false, true, true, true, false, false, false, false, false, false, false, false, false, false] rfl rfl rfl rfl (by kernel_rfl) rfl ⟨[], by decide, rfl⟩ (qt_rd (rd_move rfl)) ?_
      refine ga_first 6 #[true, true, false, true, true, true, true, false, false, false, false, false, false, false, false, false] rfl rfl rfl rfl (by kernel_rfl) rfl ⟨[], by decide, rfl⟩ (qt_rd (rd_lenSlice Try.underlying23 rfl)) ?_
      refine ga_first 7 #[true, true, false, true, true, true, true, true, false, false, false, false, false, false, false, false] rfl rfl rfl rfl (by kernel_rfl) rfl ⟨[], by decide, rfl⟩ (qt_rd (by first | exact rd_addN rfl rfl (by omega) | exact rd_add rfl rfl (by omega) (by omega))) ?_
      refine ga_three 2 8 13 #[true, true, true, true, true, true, true, true, false, false, false, false, false, false, false, false] #[true, true, false, true, true, true, true, true, true, false, false, false, false, false, false, false] #[true, true, false, true, true, true, true, true, false, false, false, false, false, true, false, false] rfl rfl rfl rfl rfl rfl (by kernel_rfl) rfl rfl rfl (.inr ⟨[], by decide, rfl⟩) ?_ ?_ ?_
      · skip
        refine (op_call rfl (vf := []) (vc := []) rfl rfl Try.call29 (fun w1 ho => table_ok l w a b ca cb w1 (hl.at ho) (hw.at ho) hd) ?_)
        rintro _ _ ⟨tb, r65, c65, htb, rfl, rfl⟩
        refine gk_sub (sub_rot (.row 65 1 r65 tb.length c65 (tb.map fun o => o.p.cell) :: rowsT tb) []) ?_
        refine ga_two 8 13 #[true, true, true, true, true, true, true, true, true, false, false, false, false, false, false, false] #[true, true, true, true, true, true, true, true, false, false, false, false, false, true, false, false] rfl rfl rfl rfl (by kernel_rfl) rfl rfl (.inr ⟨[], by decide, rfl⟩) ?_ ?_
        · skip
          refine (op_makeSlice (l.length + w.length) Try.underlying48 ty_4 rfl rfl rfl (by omega) (by omega) (by omega) (by omega) (fun b36 => ?_))
          refine ga_two 9 13 #[true, true, true, true, true, true, true, true, true, true, false, false, false, false, false, false] #[true, true, true, true, true, true, true, true, true, false, false, false, false, true, false, false] rfl rfl rfl rfl (by kernel_rfl) rfl rfl (.inr ⟨[], by decide, rfl⟩) ?_ ?_
          · skip
            refine (op_call rfl (vf := []) (vc := []) rfl rfl Try.call30 (fun w2 ho => assign_tb (r65 := r65) (c65 := c65) (b36 := b36) (N := l.length + w.length) (tk := []) (t := tableP l w) ho (by simp) (fun x hx => by simp [hx]) (by simp) htb (fun ps h => tableP_row h) (by rw [tableP_len]; omega) (by omega) hres1) ?_)
            rintro _ _ ⟨r37, c37, rfl, rfl⟩
            refine ga_first 10 #[true, true, true, true, true, true, true, true, true, true, true, false, false, false, false, false] rfl rfl rfl rfl (by kernel_rfl) rfl ⟨[], by decide, rfl⟩ (qt_rd (rd_move rfl)) ?_
            refine ga_first 11 #[true, true, true, true, true, true, true, true, true, true, true, true, false, false, false, false] rfl rfl rfl rfl (by kernel_rfl) rfl ⟨[], by decide, rfl⟩ (qt_rd (rd_extract rfl rfl)) ?_
            refine ga_first 12 #[true, true, true, true, true, true, true, true, true, true, true, true, true, false, false, false] rfl rfl rfl rfl (by kernel_rfl) rfl ⟨[], by decide, rfl⟩ (qt_rd (rd_extract rfl rfl)) ?_
            refine ga_only 13 #[true, true, true, true, true, true, true, true, true, true, true, true, true, true, false, false] rfl rfl (by kernel_rfl) rfl (.inr ⟨[], by decide, rfl⟩) (op_alloc ty_62 rfl rfl (fun b9 => ?_))
            refine ga_first 14 #[true, true, true, true, true, true, true, true, true, true, true, true, true, true, true, false] rfl rfl rfl rfl (by kernel_rfl) rfl ⟨[], by decide, rfl⟩ (qt_rd (rd_assign rfl)) ?_
            first | refine ga_only 15 #[true, true, true, true, true, true, true, true, true, true, true, true, true, true, true, true] rfl rfl (by kernel_rfl) rfl (.inr ⟨[], by decide, rfl⟩) (op_storeAgg 0 ty_62 rfl rfl rfl rfl rfl rfl (by first | rfl | (simp only [List.set_cons_succ, List.set_cons_zero]; exact rfl)) ?_) | refine ga_only 15 #[true, true, true, true, true, true, true, true, true, true, true, true, true, true, true, true] rfl rfl (by kernel_rfl) rfl (.inr ⟨[], by decide, rfl⟩) (op_storeRowAgg 1 ty_62 rfl rfl rfl rfl rfl (by simp; omega) (by first | rfl | (simp only [List.set_cons_succ, List.set_cons_zero]; exact rfl)) ?_) | refine ga_only 15 #[true, true, true, true, true, true, true, true, true, true, true, true, true, true, true, true] rfl rfl (by kernel_rfl) rfl (.inr ⟨[], by decide, rfl⟩) (op_storeRowAgg 2 ty_62 rfl rfl rfl rfl rfl (by simp; omega) (by first | rfl | (simp only [List.set_cons_succ, List.set_cons_zero]; exact rfl)) ?_) | refine ga_only 15 #[true, true, true, true, true, true, true, true, true, true, true, true, true, true, true, true] rfl rfl (by kernel_rfl) rfl (.inr ⟨[], by decide, rfl⟩) (op_storeRowAgg 3 ty_62 rfl rfl rfl rfl rfl (by simp; omega) (by first | rfl | (simp only [List.set_cons_succ, List.set_cons_zero]; exact rfl)) ?_)
            refine ga_end (by kernel_rfl) (.inl (by kernel_rfl)) ?_
            refine gx_then ?_
            exact gx_cut (r37, c37) trivial ⟨rfl, rfl, rfl, trivial⟩ ⟨[1], by decide, rfl⟩
          · skip
            refine (op_alloc ty_62 rfl rfl (fun b9 => ?_))
            refine ga_only 9 #[true, true, true, true, true, true, true, true, true, true, false, false, false, true, false, false] rfl rfl (by kernel_rfl) rfl (.inr ⟨[], by decide, rfl⟩) (op_call rfl (vf := []) (vc := []) rfl rfl Try.call30 (fun w2 ho => assign_tb (r65 := r65) (c65 := c65) (b36 := b36) (N := l.length + w.length) (tk := []) (t := tableP l w) ho (by simp) (fun x hx => by simp [hx]) (by simp) htb (fun ps h => tableP_row h) (by rw [tableP_len]; omega) (by omega) hres1) ?_)
            rintro _ _ ⟨r37, c37, rfl, rfl⟩
            refine ga_first 10 #[true, true, true, true, true, true, true, true, true, true, true, false, false, true, false, false] rfl rfl rfl rfl (by kernel_rfl) rfl ⟨[], by decide, rfl⟩ (qt_rd (rd_move rfl)) ?_
            refine ga_first 11 #[true, true, true, true, true, true, true, true, true, true, true, true, false, true, false, false] rfl rfl rfl rfl (by kernel_rfl) rfl ⟨[], by decide, rfl⟩ (qt_rd (rd_extract rfl rfl)) ?_
            refine ga_first 12 #[true, true, true, true, true, true, true, true, true, true, true, true, true, true, false, false] rfl rfl rfl rfl (by kernel_rfl) rfl ⟨[], by decide, rfl⟩ (qt_rd (rd_extract rfl rfl)) ?_
            refine ga_first 14 #[true, true, true, true, true, true, true, true, true, true, true, true, true, true, true, false] rfl rfl rfl rfl (by kernel_rfl) rfl ⟨[], by decide, rfl⟩ (qt_rd (rd_assign rfl)) ?_
            first | refine ga_only 15 #[true, true, true, true, true, true, true, true, true, true, true, true, true, true, true, true] rfl rfl (by kernel_rfl) rfl (.inr ⟨[], by decide, rfl⟩) (op_storeAgg 1 ty_62 rfl rfl rfl rfl rfl rfl (by first | rfl | (simp only [List.set_cons_succ, List.set_cons_zero]; exact rfl)) ?_) | refine ga_only 15 #[true, true, true, true, true, true, true, true, true, true, true, true, true, true, true, true] rfl rfl (by kernel_rfl) rfl (.inr ⟨[], by decide, rfl⟩) (op_storeRowAgg 0 ty_62 rfl rfl rfl rfl rfl (by simp; omega) (by first | rfl | (simp only [List.set_cons_succ, List.set_cons_zero]; exact rfl)) ?_) | refine ga_only 15 #[true, true, true, true, true, true, true, true, true, true, true, true, true, true, true, true] rfl rfl (by kernel_rfl) rfl (.inr ⟨[], by decide, rfl⟩) (op_storeRowAgg 2 ty_62 rfl rfl rfl rfl rfl (by simp; omega) (by first | rfl | (simp only [List.set_cons_succ, List.set_cons_zero]; exact rfl)) ?_) | refine ga_only 15 #[true, true, true, true, true, true, true, true, true, true, true, true, true, true, true, true] rfl rfl (by kernel_rfl) rfl (.inr ⟨[], by decide, rfl⟩) (op_storeRowAgg 3 ty_62 rfl rfl rfl rfl rfl (by simp; omega) (by first | rfl | (simp only [List.set_cons_succ, List.set_cons_zero]; exact rfl)) ?_)
            refine ga_end (by kernel_rfl) (.inl (by kernel_rfl)) ?_
            refine gx_then ?_
            exact gx_cut (r37, c37) trivial ⟨rfl, rfl, rfl, trivial⟩ ⟨[0], by decide, rfl⟩
        · skip
          refine (op_alloc ty_62 rfl rfl (fun b9 => ?_))
          refine ga_only 8 #[true, true, true, true, true, true, true, true, true, false, false, false, false, true, false, false] rfl rfl (by kernel_rfl) rfl (.inr ⟨[], by decide, rfl⟩) (op_makeSlice (l.length + w.length) Try.underlying48 ty_4 rfl rfl rfl (by omega) (by omega) (by omega) (by omega) (fun b36 => ?_))
          refine ga_only 9 #[true, true, true, true, true, true, true, true, true, true, false, false, false, true, false, false] rfl rfl (by kernel_rfl) rfl (.inr ⟨[], by decide, rfl⟩) (op_call rfl (vf := []) (vc := []) rfl rfl Try.call30 (fun w2 ho => assign_tb (r65 := r65) (c65 := c65) (b36 := b36) (N := l.length + w.length) (tk := []) (t := tableP l w) ho (by simp) (fun x hx => by simp [hx]) (by simp) htb (fun ps h => tableP_row h) (by rw [tableP_len]; omega) (by omega) hres1) ?_)
          rintro _ _ ⟨r37, c37, rfl, rfl⟩
          refine ga_first 10 #[true, true, true, true, true, true, true, true, true, true, true, false, false, true, false, false] rfl rfl rfl rfl (by kernel_rfl) rfl ⟨[], by decide, rfl⟩ (qt_rd (rd_move rfl)) ?_
          refine ga_first 11 #[true, true, true, true, true, true, true, true, true, true, true, true, false, true, false, false] rfl rfl rfl rfl (by kernel_rfl) rfl ⟨[], by decide, rfl⟩ (qt_rd (rd_extract rfl rfl)) ?_
          refine ga_first 12 #[true, true, true, true, true, true, true, true, true, true, true, true, true, true, false, false] rfl rfl rfl rfl (by kernel_rfl) rfl ⟨[], by decide, rfl⟩ (qt_rd (rd_extract rfl rfl)) ?_
          refine ga_first 14 #[true, true, true, true, true, true, true, true, true, true, true, true, true, true, true, false] rfl rfl rfl rfl (by kernel_rfl) rfl ⟨[], by decide, rfl⟩ (qt_rd (rd_assign rfl)) ?_
          first | refine ga_only 15 #[true, true, true, true, true, true, true, true, true, true, true, true, true, true, true, true] rfl rfl (by kernel_rfl) rfl (.inr ⟨[], by decide, rfl⟩) (op_storeAgg 2 ty_62 rfl rfl rfl rfl rfl rfl (by first | rfl | (simp only [List.set_cons_succ, List.set_cons_zero]; exact rfl)) ?_) | refine ga_only 15 #[true, true, true, true, true, true, true, true, true, true, true, true, true, true, true, true] rfl rfl (by kernel_rfl) rfl (.inr ⟨[], by decide, rfl⟩) (op_storeRowAgg 0 ty_62 rfl rfl rfl rfl rfl (by simp; omega) (by first | rfl | (simp only [List.set_cons_succ, List.set_cons_zero]; exact rfl)) ?_) | refine ga_only 15 #[true, true, true, true, true, true, true, true, true, true, true, true, true, true, true, true] rfl rfl (by kernel_rfl) rfl (.inr ⟨[], by decide, rfl⟩) (op_storeRowAgg 1 ty_62 rfl rfl rfl rfl rfl (by simp; omega) (by first | rfl | (simp only [List.set_cons_succ, List.set_cons_zero]; exact rfl)) ?_) | refine ga_only 15 #[true, true, true, true, true, true, true, true, true, true, true, true, true, true, true, true] rfl rfl (by kernel_rfl) rfl (.inr ⟨[], by decide, rfl⟩) (op_storeRowAgg 3 ty_62 rfl rfl rfl rfl rfl (by simp; omega) (by first | rfl | (simp only [List.set_cons_succ, List.set_cons_zero]; exact rfl)) ?_)
          refine ga_end (by kernel_rfl) (.inl (by kernel_rfl)) ?_
          refine gx_then ?_
          exact gx_cut (r37, c37) trivial ⟨rfl, rfl, rfl, trivial⟩ ⟨[0], by decide, rfl⟩
      · skip
        refine (op_makeSlice (l.length + w.length) Try.underlying48 ty_4 rfl rfl rfl (by omega) (by omega) (by omega) (by omega) (fun b36 => ?_))
        refine ga_two 2 13 #[true, true, true, true, true, true, true, true, true, false, false, false, false, false, false, false] #[true, true, false, true, true, true, true, true, true, false, false, false, false, true, false, false] rfl rfl rfl rfl (by kernel_rfl) rfl rfl (.inr ⟨[], by decide, rfl⟩) ?_ ?_
        · skip
          refine (op_call rfl (vf := []) (vc := []) rfl rfl Try.call29 (fun w1 ho => table_ok l w a b ca cb w1 (hl.at ho) (hw.at ho) hd) ?_)
          rintro _ _ ⟨tb, r65, c65, htb, rfl, rfl⟩
          refine gk_sub (sub_rot (.row 65 1 r65 tb.length c65 (tb.map fun o => o.p.cell) :: rowsT tb) [_]) ?_
          refine ga_two 9 13 #[true, true, true, true, true, true, true, true, true, true, false, false, false, false, false, false] #[true, true, true, true, true, true, true, true, true, false, false, false, false, true, false, false] rfl rfl rfl rfl (by kernel_rfl) rfl rfl (.inr ⟨[], by decide, rfl⟩) ?_ ?_
          · skip
            refine (op_call rfl (vf := []) (vc := []) rfl rfl Try.call30 (fun w2 ho => assign_tb (r65 := r65) (c65 := c65) (b36 := b36) (N := l.length + w.length) (tk := []) (t := tableP l w) ho (by simp) (fun x hx => by simp [hx]) (by simp) htb (fun ps h => tableP_row h) (by rw [tableP_len]; omega) (by omega) hres1) ?_)
            rintro _ _ ⟨r37, c37, rfl, rfl⟩
            refine ga_first 10 #[true, true, true, true, true, true, true, true, true, true, true, false, false, false, false, false] rfl rfl rfl rfl (by kernel_rfl) rfl ⟨[], by decide, rfl⟩ (qt_rd (rd_move rfl)) ?_
            refine ga_first 11 #[true, true, true, true, true, true, true, true, true, true, true, true, false, false, false, false] rfl rfl rfl rfl (by kernel_rfl) rfl ⟨[], by decide, rfl⟩ (qt_rd (rd_extract rfl rfl)) ?_
            refine ga_first 12 #[true, true, true, true, true, true, true, true, true, true, true, true, true, false, false, false] rfl rfl rfl rfl (by kernel_rfl) rfl ⟨[], by decide, rfl⟩ (qt_rd (rd_extract rfl rfl)) ?_
            refine ga_only 13 #[true, true, true, true, true, true, true, true, true, true, true, true, true, true, false, false] rfl rfl (by kernel_rfl) rfl (.inr ⟨[], by decide, rfl⟩) (op_alloc ty_62 rfl rfl (fun b9 => ?_))
            refine ga_first 14 #[true, true, true, true, true, true, true, true, true, true, true, true, true, true, true, false] rfl rfl rfl rfl (by kernel_rfl) rfl ⟨[], by decide, rfl⟩ (qt_rd (rd_assign rfl)) ?_
            first | refine ga_only 15 #[true, true, true, true, true, true, true, true, true, true, true, true, true, true, true, true] rfl rfl (by kernel_rfl) rfl (.inr ⟨[], by decide, rfl⟩) (op_storeAgg 0 ty_62 rfl rfl rfl rfl rfl rfl (by first | rfl | (simp only [List.set_cons_succ, List.set_cons_zero]; exact rfl)) ?_) | refine ga_only 15 #[true, true, true, true, true, true, true, true, true, true, true, true, true, true, true, true] rfl rfl (by kernel_rfl) rfl (.inr ⟨[], by decide, rfl⟩) (op_storeRowAgg 1 ty_62 rfl rfl rfl rfl rfl (by simp; omega) (by first | rfl | (simp only [List.set_cons_succ, List.set_cons_zero]; exact rfl)) ?_) | refine ga_only 15 #[true, true, true, true, true, true, true, true, true, true, true, true, true, true, true, true] rfl rfl (by kernel_rfl) rfl (.inr ⟨[], by decide, rfl⟩) (op_storeRowAgg 2 ty_62 rfl rfl rfl rfl rfl (by simp; omega) (by first | rfl | (simp only [List.set_cons_succ, List.set_cons_zero]; exact rfl)) ?_) | refine ga_only 15 #[true, true, true, true, true, true, true, true, true, true, true, true, true, true, true, true] rfl rfl (by kernel_rfl) rfl (.inr ⟨[], by decide, rfl⟩) (op_storeRowAgg 3 ty_62 rfl rfl rfl rfl rfl (by simp; omega) (by first | rfl | (simp only [List.set_cons_succ, List.set_cons_zero]; exact rfl)) ?_)
            refine ga_end (by kernel_rfl) (.inl (by kernel_rfl)) ?_
            refine gx_then ?_
            exact gx_cut (r37, c37) trivial ⟨rfl, rfl, rfl, trivial⟩ ⟨[1], by decide, rfl⟩
          · skip
            refine (op_alloc ty_62 rfl rfl (fun b9 => ?_))
            refine ga_only 9 #[true, true, true, true, true, true, true, true, true, true, false, false, false, true, false, false] rfl rfl (by kernel_rfl) rfl (.inr ⟨[], by decide, rfl⟩) (op_call rfl (vf := []) (vc := []) rfl rfl Try.call30 (fun w2 ho => assign_tb (r65 := r65) (c65 := c65) (b36 := b36) (N := l.length + w.length) (tk := []) (t := tableP l w) ho (by simp) (fun x hx => by simp [hx]) (by simp) htb (fun ps h => tableP_row h) (by rw [tableP_len]; omega) (by omega) hres1) ?_)
            rintro _ _ ⟨r37, c37, rfl, rfl⟩
            refine ga_first 10 #[true, true, true, true, true, true, true, true, true, true, true, false, false, true, false, false] rfl rfl rfl rfl (by kernel_rfl) rfl ⟨[], by decide, rfl⟩ (qt_rd (rd_move rfl)) ?_
            refine ga_first 11 #[true, true, true, true, true, true, true, true, true, true, true, true, false, true, false, false] rfl rfl rfl rfl (by kernel_rfl) rfl ⟨[], by decide, rfl⟩ (qt_rd (rd_extract rfl rfl)) ?_
            refine ga_first 12 #[true, true, true, true, true, true, true, true, true, true, true, true, true, true, false, false] rfl rfl rfl rfl (by kernel_rfl) rfl ⟨[], by decide, rfl⟩ (qt_rd (rd_extract rfl rfl)) ?_
            refine ga_first 14 #[true, true, true, true, true, true, true, true, true, true, true, true, true, true, true, false] rfl rfl rfl rfl (by kernel_rfl) rfl ⟨[], by decide, rfl⟩ (qt_rd (rd_assign rfl)) ?_
            first | refine ga_only 15 #[true, true, true, true, true, true, true, true, true, true, true, true, true, true, true, true] rfl rfl (by kernel_rfl) rfl (.inr ⟨[], by decide, rfl⟩) (op_storeAgg 1 ty_62 rfl rfl rfl rfl rfl rfl (by first | rfl | (simp only [List.set_cons_succ, List.set_cons_zero]; exact rfl)) ?_) | refine ga_only 15 #[true, true, true, true, true, true, true, true, true, true, true, true, true, true, true, true] rfl rfl (by kernel_rfl) rfl (.inr ⟨[], by decide, rfl⟩) (op_storeRowAgg 0 ty_62 rfl rfl rfl rfl rfl (by simp; omega) (by first | rfl | (simp only [List.set_cons_succ, List.set_cons_zero]; exact rfl)) ?_) | refine ga_only 15 #[true, true, true, true, true, true, true, true, true, true, true, true, true, true, true, true] rfl rfl (by kernel_rfl) rfl (.inr ⟨[], by decide, rfl⟩) (op_storeRowAgg 2 ty_62 rfl rfl rfl rfl rfl (by simp; omega) (by first | rfl | (simp only [List.set_cons_succ, List.set_cons_zero]; exact rfl)) ?_) | refine ga_only 15 #[true, true, true, true, true, true, true, true, true, true, true, true, true, true, true, true] rfl rfl (by kernel_rfl) rfl (.inr ⟨[], by decide, rfl⟩) (op_storeRowAgg 3 ty_62 rfl rfl rfl rfl rfl (by simp; omega) (by first | rfl | (simp only [List.set_cons_succ, List.set_cons_zero]; exact rfl)) ?_)
            refine ga_end (by kernel_rfl) (.inl (by kernel_rfl)) ?_
            refine gx_then ?_
            exact gx_cut (r37, c37) trivial ⟨rfl, rfl, rfl, trivial⟩ ⟨[0], by decide, rfl⟩
        · skip
          refine (op_alloc ty_62 rfl rfl (fun b9 => ?_))
          refine ga_only 2 #[true, true, true, true, true, true, true, true, true, false, false, false, false, true, false, false] rfl rfl (by kernel_rfl) rfl (.inr ⟨[], by decide, rfl⟩) (op_call rfl (vf := []) (vc := []) rfl rfl Try.call29 (fun w1 ho => table_ok l w a b ca cb w1 (hl.at ho) (hw.at ho) hd) ?_)
          rintro _ _ ⟨tb, r65, c65, htb, rfl, rfl⟩
          refine gk_sub (sub_rot (.row 65 1 r65 tb.length c65 (tb.map fun o => o.p.cell) :: rowsT tb) [_, _]) ?_
          refine ga_only 9 #[true, true, true, true, true, true, true, true, true, true, false, false, false, true, false, false] rfl rfl (by kernel_rfl) rfl (.inr ⟨[], by decide, rfl⟩) (op_call rfl (vf := []) (vc := []) rfl rfl Try.call30 (fun w2 ho => assign_tb (r65 := r65) (c65 := c65) (b36 := b36) (N := l.length + w.length) (tk := []) (t := tableP l w) ho (by simp) (fun x hx => by simp [hx]) (by simp) htb (fun ps h => tableP_row h) (by rw [tableP_len]; omega) (by omega) hres1) ?_)
          rintro _ _ ⟨r37, c37, rfl, rfl⟩
          refine ga_first 10 #[true, true, true, true, true, true, true, true, true, true, true, false, false, true, false, false] rfl rfl rfl rfl (by kernel_rfl) rfl ⟨[], by decide, rfl⟩ (qt_rd (rd_move rfl)) ?_
          refine ga_first 11 #[true, true, true, true, true, true, true, true, true, true, true, true, false, true, false, false] rfl rfl rfl rfl (by kernel_rfl) rfl ⟨[], by decide, rfl⟩ (qt_rd (rd_extract rfl rfl)) ?_
          refine ga_first 12 #[true, true, true, true, true, true, true, true, true, true, true, true, true, true, false, false] rfl rfl rfl rfl (by kernel_rfl) rfl ⟨[], by decide, rfl⟩ (qt_rd (rd_extract rfl rfl)) ?_
          refine ga_first 14 #[true, true, true, true, true, true, true, true, true, true, true, true, true, true, true, false] rfl rfl rfl rfl (by kernel_rfl) rfl ⟨[], by decide, rfl⟩ (qt_rd (rd_assign rfl)) ?_
          first | refine ga_only 15 #[true, true, true, true, true, true, true, true, true, true, true, true, true, true, true, true] rfl rfl (by kernel_rfl) rfl (.inr ⟨[], by decide, rfl⟩) (op_storeAgg 1 ty_62 rfl rfl rfl rfl rfl rfl (by first | rfl | (simp only [List.set_cons_succ, List.set_cons_zero]; exact rfl)) ?_) | refine ga_only 15 #[true, true, true, true, true, true, true, true, true, true, true, true, true, true, true, true] rfl rfl (by kernel_rfl) rfl (.inr ⟨[], by decide, rfl⟩) (op_storeRowAgg 0 ty_62 rfl rfl rfl rfl rfl (by simp; omega) (by first | rfl | (simp only [List.set_cons_succ, List.set_cons_zero]; exact rfl)) ?_) | refine ga_only 15 #[true, true, true, true, true, true, true, true, true, true, true, true, true, true, true, true] rfl rfl (by kernel_rfl) rfl (.inr ⟨[], by decide, rfl⟩) (op_storeRowAgg 2 ty_62 rfl rfl rfl rfl rfl (by simp; omega) (by first | rfl | (simp only [List.set_cons_succ, List.set_cons_zero]; exact rfl)) ?_) | refine ga_only 15 #[true, true, true, true, true, true, true, true, true, true, true, true, true, true, true, true] rfl rfl (by kernel_rfl) rfl (.inr ⟨[], by decide, rfl⟩) (op_storeRowAgg 3 ty_62 rfl rfl rfl rfl rfl (by simp; omega) (by first | rfl | (simp only [List.set_cons_succ, List.set_cons_zero]; exact rfl)) ?_)
          refine ga_end (by kernel_rfl) (.inl (by kernel_rfl)) ?_
          refine gx_then ?_
          exact gx_cut (r37, c37) trivial ⟨rfl, rfl, rfl, trivial⟩ ⟨[0], by decide, rfl⟩
      · skip
        refine (op_alloc ty_62 rfl rfl (fun b9 => ?_))
        refine ga_two 2 8 #[true, true, true, true, true, true, true, true, false, false, false, false, false, true, false, false] #[true, true, false, true, true, true, true, true, true, false, false, false, false, true, false, false] rfl rfl rfl rfl (by kernel_rfl) rfl rfl (.inr ⟨[], by decide, rfl⟩) ?_ ?_
        · skip
          refine (op_call rfl (vf := []) (vc := []) rfl rfl Try.call29 (fun w1 ho => table_ok l w a b ca cb w1 (hl.at ho) (hw.at ho) hd) ?_)
          rintro _ _ ⟨tb, r65, c65, htb, rfl, rfl⟩
          refine gk_sub (sub_rot (.row 65 1 r65 tb.length c65 (tb.map fun o => o.p.cell) :: rowsT tb) [_]) ?_
          refine ga_only 8 #[true, true, true, true, true, true, true, true, true, false, false, false, false, true, false, false] rfl rfl (by kernel_rfl) rfl (.inr ⟨[], by decide, rfl⟩) (op_makeSlice (l.length + w.length) Try.underlying48 ty_4 rfl rfl rfl (by omega) (by omega) (by omega) (by omega) (fun b36 => ?_))
          refine ga_only 9 #[true, true, true, true, true, true, true, true, true, true, false, false, false, true, false, false] rfl rfl (by kernel_rfl) rfl (.inr ⟨[], by decide, rfl⟩) (op_call rfl (vf := []) (vc := []) rfl rfl Try.call30 (fun w2 ho => assign_tb (r65 := r65) (c65 := c65) (b36 := b36) (N := l.length + w.length) (tk := []) (t := tableP l w) ho (by simp) (fun x hx => by simp [hx]) (by simp) htb (fun ps h => tableP_row h) (by rw [tableP_len]; omega) (by omega) hres1) ?_)
          rintro _ _ ⟨r37, c37, rfl, rfl⟩
          refine ga_first 10 #[true, true, true, true, true, true, true, true, true, true, true, false, false, true, false, false] rfl rfl rfl rfl (by kernel_rfl) rfl ⟨[], by decide, rfl⟩ (qt_rd (rd_move rfl)) ?_
          refine ga_first 11 #[true, true, true, true, true, true, true, true, true, true, true, true, false, true, false, false] rfl rfl rfl rfl (by kernel_rfl) rfl ⟨[], by decide, rfl⟩ (qt_rd (rd_extract rfl rfl)) ?_
          refine ga_first 12 #[true, true, true, true, true, true, true, true, true, true, true, true, true, true, false, false] rfl rfl rfl rfl (by kernel_rfl) rfl ⟨[], by decide, rfl⟩ (qt_rd (rd_extract rfl rfl)) ?_
          refine ga_first 14 #[true, true, true, true, true, true, true, true, true, true, true, true, true, true, true, false] rfl rfl rfl rfl (by kernel_rfl) rfl ⟨[], by decide, rfl⟩ (qt_rd (rd_assign rfl)) ?_
          first | refine ga_only 15 #[true, true, true, true, true, true, true, true, true, true, true, true, true, true, true, true] rfl rfl (by kernel_rfl) rfl (.inr ⟨[], by decide, rfl⟩) (op_storeAgg 2 ty_62 rfl rfl rfl rfl rfl rfl (by first | rfl | (simp only [List.set_cons_succ, List.set_cons_zero]; exact rfl)) ?_) | refine ga_only 15 #[true, true, true, true, true, true, true, true, true, true, true, true, true, true, true, true] rfl rfl (by kernel_rfl) rfl (.inr ⟨[], by decide, rfl⟩) (op_storeRowAgg 0 ty_62 rfl rfl rfl rfl rfl (by simp; omega) (by first | rfl | (simp only [List.set_cons_succ, List.set_cons_zero]; exact rfl)) ?_) | refine ga_only 15 #[true, true, true, true, true, true, true, true, true, true, true, true, true, true, true, true] rfl rfl (by kernel_rfl) rfl (.inr ⟨[], by decide, rfl⟩) (op_storeRowAgg 1 ty_62 rfl rfl rfl rfl rfl (by simp; omega) (by first | rfl | (simp only [List.set_cons_succ, List.set_cons_zero]; exact rfl)) ?_) | refine ga_only 15 #[true, true, true, true, true, true, true, true, true, true, true, true, true, true, true, true] rfl rfl (by kernel_rfl) rfl (.inr ⟨[], by decide, rfl⟩) (op_storeRowAgg 3 ty_62 rfl rfl rfl rfl rfl (by simp; omega) (by first | rfl | (simp only [List.set_cons_succ, List.set_cons_zero]; exact rfl)) ?_)
          refine ga_end (by kernel_rfl) (.inl (by kernel_rfl)) ?_
          refine gx_then ?_
          exact gx_cut (r37, c37) trivial ⟨rfl, rfl, rfl, trivial⟩ ⟨[0], by decide, rfl⟩
        · skip
          refine (op_makeSlice (l.length + w.length) Try.underlying48 ty_4 rfl rfl rfl (by omega) (by omega) (by omega) (by omega) (fun b36 => ?_))
          refine ga_only 2 #[true, true, true, true, true, true, true, true, true, false, false, false, false, true, false, false] rfl rfl (by kernel_rfl) rfl (.inr ⟨[], by decide, rfl⟩) (op_call rfl (vf := []) (vc := []) rfl rfl Try.call29 (fun w1 ho => table_ok l w a b ca cb w1 (hl.at ho) (hw.at ho) hd) ?_)
          rintro _ _ ⟨tb, r65, c65, htb, rfl, rfl⟩
          refine gk_sub (sub_rot (.row 65 1 r65 tb.length c65 (tb.map fun o => o.p.cell) :: rowsT tb) [_, _]) ?_
          refine ga_only 9 #[true, true, true, true, true, true, true, true, true, true, false, false, false, true, false, false] rfl rfl (by kernel_rfl) rfl (.inr ⟨[], by decide, rfl⟩) (op_call rfl (vf := []) (vc := []) rfl rfl Try.call30 (fun w2 ho => assign_tb (r65 := r65) (c65 := c65) (b36 := b36) (N := l.length + w.length) (tk := []) (t := tableP l w) ho (by simp) (fun x hx => by simp [hx]) (by simp) htb (fun ps h => tableP_row h) (by rw [tableP_len]; omega) (by omega) hres1) ?_)
          rintro _ _ ⟨r37, c37, rfl, rfl⟩
          refine ga_first 10 #[true, true, true, true, true, true, true, true, true, true, true, false, false, true, false, false] rfl rfl rfl rfl (by kernel_rfl) rfl ⟨[], by decide, rfl⟩ (qt_rd (rd_move rfl)) ?_
          refine ga_first 11 #[true, true, true, true, true, true, true, true, true, true, true, true, false, true, false, false] rfl rfl rfl rfl (by kernel_rfl) rfl ⟨[], by decide, rfl⟩ (qt_rd (rd_extract rfl rfl)) ?_
          refine ga_first 12 #[true, true, true, true, true, true, true, true, true, true, true, true, true, true, false, false] rfl rfl rfl rfl (by kernel_rfl) rfl ⟨[], by decide, rfl⟩ (qt_rd (rd_extract rfl rfl)) ?_
          refine ga_first 14 #[true, true, true, true, true, true, true, true, true, true, true, true, true, true, true, false] rfl rfl rfl rfl (by kernel_rfl) rfl ⟨[], by decide, rfl⟩ (qt_rd (rd_assign rfl)) ?_
          first | refine ga_only 15 #[true, true, true, true, true, true, true, true, true, true, true, true, true, true, true, true] rfl rfl (by kernel_rfl) rfl (.inr ⟨[], by decide, rfl⟩) (op_storeAgg 2 ty_62 rfl rfl rfl rfl rfl rfl (by first | rfl | (simp only [List.set_cons_succ, List.set_cons_zero]; exact rfl)) ?_) | refine ga_only 15 #[true, true, true, true, true, true, true, true, true, true, true, true, true, true, true, true] rfl rfl (by kernel_rfl) rfl (.inr ⟨[], by decide, rfl⟩) (op_storeRowAgg 0 ty_62 rfl rfl rfl rfl rfl (by simp; omega) (by first | rfl | (simp only [List.set_cons_succ, List.set_cons_zero]; exact rfl)) ?_) | refine ga_only 15 #[true, true, true, true, true, true, true, true, true, true, true, true, true, true, true, true] rfl rfl (by kernel_rfl) rfl (.inr ⟨[], by decide, rfl⟩) (op_storeRowAgg 1 ty_62 rfl rfl rfl rfl rfl (by simp; omega) (by first | rfl | (simp only [List.set_cons_succ, List.set_cons_zero]; exact rfl)) ?_) | refine ga_only 15 #[true, true, true, true, true, true, true, true, true, true, true, true, true, true, true, true] rfl rfl (by kernel_rfl) rfl (.inr ⟨[], by decide, rfl⟩) (op_storeRowAgg 3 ty_62 rfl rfl rfl rfl rfl (by simp; omega) (by first | rfl | (simp only [List.set_cons_succ, List.set_cons_zero]; exact rfl)) ?_)
          refine ga_end (by kernel_rfl) (.inl (by kernel_rfl)) ?_
          refine gx_then ?_
          exact gx_cut (r37, c37) trivial ⟨rfl, rfl, rfl, trivial⟩ ⟨[0], by decide, rfl⟩
    · rintro ⟨r37, c37⟩ _
      simp only
      refine gc_seq ?_
      refine gc_region ?_
      refine gl_op (op_makeMapV rfl (fun b40 => ?_))
      refine gl_op (op_rd rfl (rd_assign rfl) ?_)
      refine gl_nil ?_
      refine gx_then ?_
      refine gc_seq ?_
      refine gc_region ?_
      refine gl_op (op_rd rfl (rd_assign rfl) ?_)
      refine gl_op (op_rd rfl (rd_assign rfl) ?_)
      refine gl_nil ?_
      refine gx_then ?_
      refine gc_seq ?_
      refine gc_seq ?_
      refine gc_region ?_
      refine gl_op (op_rd rfl (rd_move rfl) ?_)
      refine gl_op (op_rd rfl (rd_lenSlice Try.underlying39 rfl) ?_)
      refine gl_op (op_rd rfl (rd_move rfl) ?_)
      refine gl_nil ?_
      refine gx_then ?_
      refine gc_block ?_
      refine gk_nil 3 1 ?_
      refine gk_nil 3 1 ?_
      refine gc_loopF (ι := Nat × List Nat × Option Nat × Nat × List MapEntry × Nat) [(0, _), (1, _), (10, _), (12, _), (41, _), (42, _)] [_, _] (fun j => j.1 ≤ ol.length ∧ j.2.1 = unmetTo l.length ol j.1 ∧ KV j.2.2.2.2.1 (kvs ol j.1)) (fun j Fr0 => ((43, natV j.1) :: (11, .slice (rowA j.2.2.1) j.2.1.length j.2.2.2.1) :: Fr0)) (fun j Fr0 => (.row 3 1 j.2.2.1 j.2.1.length j.2.2.2.1 (j.2.1.map natV) :: .obj b40 (.map j.2.2.2.2.1.toArray j.2.2.2.2.2) :: Fr0)) (fun j => ol.length - j.1) (0, [], none, 0, [], 0) (⟨Nat.zero_le _, rfl, rfl⟩) ⟨rfl, rfl, rfl, rfl, rfl, rfl, rfl, rfl, trivial⟩ ⟨[0, 2, 1, 3], by decide, rfl⟩ ?_
      rintro ⟨k, us, r11, c11, es, nb⟩ ⟨hk, hus, hkv⟩
      simp only at hk hus hkv ⊢
      have husl : us.length ≤ k := by rw [hus]; unfold unmetTo; exact Nat.le_trans (List.length_filter_le _ _) (by simp)
      refine gc_seq ?_
      refine gc_region ?_
      refine gl_op (op_rd rfl (rd_lss rfl rfl) (gk_dec (fun hlt => ?_) (fun hlt => ?_)))
      · skip
        refine gl_nil ?_
        refine gx_then ?_
        refine gc_seq ?_
        refine gc_cond_t rfl ?_
        refine gc_skip ?_
        refine gx_then ?_
        refine gc_seq ?_
        refine gc_block ?_
        refine gc_seq ?_
        refine gc_region ?_
        refine gl_op (op_rd rfl (rd_move rfl) ?_)
        refine gl_op (op_rd rfl (rd_indexRow1 3 rfl Try.underlying39 ty_3 rfl rfl (by omega) (by omega)) ?_)
        refine gl_op (op_rd rfl (rd_load Try.underlying3 rfl rfl (ld_rowN 3 rfl (get_gn (by omega)))) ?_)
        refine gl_op (op_rd rfl (rd_assign rfl) ?_)
        refine gl_op (op_rd rfl (rd_assign rfl) ?_)
        refine gl_nil ?_
        refine gx_then ?_
        refine gc_seq ?_
        refine gc_region ?_
        refine gl_op (op_rd rfl (rd_move rfl) ?_)
        refine gl_op (op_rd rfl (rd_move rfl) ?_)
        refine gl_op (op_rd rfl (rd_move rfl) ?_)
        refine gl_op (op_mapInsertV 1 hkv Try.underlying74 Try.underlying3 rfl rfl rfl rfl (kvs_no hnd (by omega)) (by first | rfl | (simp only [List.set_cons_succ, List.set_cons_zero]; exact rfl)) ?_)
        refine gl_nil ?_
        refine gx_then ?_
        refine gc_seq ?_
        refine gc_region ?_
        refine gl_op (op_rd rfl (rd_move rfl) ?_)
        refine gl_op (op_rd rfl (rd_move rfl) ?_)
        refine gl_op (op_rd rfl (rd_lenSlice Try.underlying22 rfl) ?_)
        refine gl_op (op_rd rfl (rd_geq rfl rfl) (gk_dec (fun h54 => ?_) (fun h54 => ?_)))
        · skip
          refine gl_nil ?_
          refine gx_then ?_
          refine gc_cond_t rfl ?_
          refine gc_region ?_
          refine gl_op (op_rd rfl (rd_move rfl) ?_)
          refine gl_op (op_rd rfl (rd_move rfl) ?_)
          refine gl_op (op_buildSlice (sz := 1) rfl rfl (fun _ => bs_39_1_0 _) rfl rfl (fun b57 => ?_))
          refine gl_op (op_appendRow 1 0 Try.underlying39 ty_3 rfl (by decide) rfl rfl rfl rfl rfl (by simp [Value.oneCell']) (by omega) (by omega) (fun _ => (by first | rfl | (simp only [List.set_cons_succ, List.set_cons_zero]; exact rfl))) (fun r58 c58 => ?_))
          refine gl_op (op_rd rfl (rd_assign rfl) ?_)
          refine gl_nil ?_
          refine gx_block ?_
          refine gx_then ?_
          rw [snocN, snoc_len us k]
          refine gc_region ?_
          refine gl_op (op_rd rfl (by first | exact rd_addN (b := 1) rfl rfl (by omega) | exact rd_add rfl rfl (by omega) (by omega)) ?_)
          refine gl_op (op_rd rfl (rd_move rfl) ?_)
          refine gl_nil ?_
          refine gx_then ?_
          exact gx_cut ((k + 1, us ++ [k], r58, c58, es ++ [⟨natV (gn ol k), natV k, nb⟩], nb + 1)) ⟨⟨by simp only; omega, by simp only; rw [unmet_succ, if_pos (by omega), hus], by simp only; rw [kvs_succ]; exact hkv.snoc _ _ _⟩, by simp only; omega⟩ ⟨rfl, rfl, rfl, rfl, rfl, rfl, rfl, rfl, trivial⟩ ⟨[1, 2, 3, 4], by decide, rfl⟩
        · skip
          refine gl_nil ?_
          refine gx_then ?_
          refine gc_cond_f rfl ?_
          refine gc_skip ?_
          refine gx_block ?_
          refine gx_then ?_
          refine gc_region ?_
          refine gl_op (op_rd rfl (by first | exact rd_addN (b := 1) rfl rfl (by omega) | exact rd_add rfl rfl (by omega) (by omega)) ?_)
          refine gl_op (op_rd rfl (rd_move rfl) ?_)
          refine gl_nil ?_
          refine gx_then ?_
          exact gx_cut ((k + 1, us, r11, c11, es ++ [⟨natV (gn ol k), natV k, nb⟩], nb + 1)) ⟨⟨by simp only; omega, by simp only; rw [unmet_succ, if_neg (by omega), hus], by simp only; rw [kvs_succ]; exact hkv.snoc _ _ _⟩, by simp only; omega⟩ ⟨rfl, rfl, rfl, rfl, rfl, rfl, rfl, rfl, trivial⟩ ⟨[0, 1, 2, 3], by decide, rfl⟩
      · skip
        have hke : k = ol.length := by omega
        rw [hke] at hus hkv
        refine gl_nil ?_
        refine gx_then ?_
        refine gc_seq ?_
        refine gc_cond_f rfl ?_
        refine gc_exit ?_
        refine gx_then_exit ?_
        refine gx_then_exit ?_
        refine gx_block_exit ?_
        refine gx_then ?_
        refine gc_seq ?_
        refine gc_seq ?_
        refine gc_region ?_
        refine gl_op (op_rd rfl (rd_assign rfl) ?_)
        refine gl_nil ?_
        refine gx_then ?_
        refine gc_block ?_
        refine gc_loopF (ι := Nat × Nat × List Nat × List Nat × Option Nat × Nat × Option Nat × Nat) [(0, _), (1, _), (10, _)] [_, _] (fun j => shortGo l ol w j.1 j.2.1 (j.2.2.1, j.2.2.2.1) = some sf ∧ Sk l.length w.length (j.2.2.1, j.2.2.2.1) ∧ j.2.1 ≤ j.2.2.1.length) (fun j Fr0 => ((15, natV j.2.1) :: (11, .slice (rowA j.2.2.2.2.1) j.2.2.1.length j.2.2.2.2.2.1) :: (12, .slice (rowA j.2.2.2.2.2.2.1) j.2.2.2.1.length j.2.2.2.2.2.2.2) :: Fr0)) (fun j Fr0 => (.row 3 1 j.2.2.2.2.1 j.2.2.1.length j.2.2.2.2.2.1 (j.2.2.1.map natV) :: .row 3 1 j.2.2.2.2.2.2.1 j.2.2.2.1.length j.2.2.2.2.2.2.2 (j.2.2.2.1.map natV) :: Fr0)) (fun j => j.1) (w.length + 1, 0, us, [], r11, c11, none, 0) (⟨by simp only; rw [hus, holn]; exact hgo0, by simp only; rw [hus, holn]; exact unmet_sk holn, Nat.zero_le _⟩) ⟨rfl, rfl, rfl, rfl, rfl, rfl, trivial⟩ ⟨[0, 2, 1, 3], by decide, rfl⟩ ?_
        rintro ⟨f, at1, us1, fs1, r11, c11, r12, c12⟩ ⟨hgo, hsk0, hatl⟩
        simp only at hgo hsk0 hatl ⊢
        clear husl hk hlt
        refine gc_seq ?_
        refine gc_seq ?_
        refine gc_region ?_
        refine gl_op (op_rd rfl (rd_move rfl) ?_)
        refine gl_op (op_rd rfl (rd_move rfl) ?_)
        refine gl_op (op_rd rfl (rd_lenSlice Try.underlying39 rfl) ?_)
        refine gl_op (op_rd rfl (rd_lss rfl rfl) (gk_dec (fun hlt1 => ?_) (fun hlt1 => ?_)))
        · skip
          obtain ⟨f, rfl⟩ : ∃ f', f = f' + 1 := by
            cases f with
            | zero => rw [shortGo, if_pos (by simp only; omega)] at hgo; cases hgo
            | succ f => exact ⟨f, rfl⟩
          rw [shortGo, if_pos (by simp only; omega)] at hgo
          obtain ⟨u0, hu0⟩ := get_some (show at1 < us1.length by omega)
          have hu0w := hsk0.lt1 u0 (List.mem_of_getElem? hu0)
          obtain ⟨x, hx⟩ := get_some hu0w
          have hxo := hd.w x (List.mem_of_getElem? hx)
          rw [show w.getD (gn (us1, fs1).1 at1) default = x by simp only; rw [show gn us1 at1 = u0 from getD_some hu0]; exact getD_some hx] at hgo
          refine gl_nil ?_
          refine gx_then ?_
          refine gc_cond_t rfl ?_
          refine gc_skip ?_
          refine gx_then ?_
          refine gc_seq ?_
          refine gc_block ?_
          refine gc_seq ?_
          refine gc_region ?_
          refine gl_op (op_rd rfl (rd_move rfl) ?_)
          refine gl_op (op_rd rfl (rd_lenSlice Try.underlying22 rfl) ?_)
          refine gl_op (op_rd rfl (rd_move rfl) ?_)
          refine gl_nil ?_
          refine gx_then ?_
          refine gc_block ?_
          refine gc_loopF (ι := Nat × List Nat × List Nat × Option Nat × Nat × Option Nat × Nat) [(0, _), (1, _), (10, _), (15, _), (66, _), (67, _)] [_, _] (fun j => j.1 ≤ l.length ∧ (j.2.1, j.2.2.1) = passTo l ol x (us1, fs1) j.1 ∧ Sk l.length w.length (j.2.1, j.2.2.1) ∧ j.2.1[at1]? = some u0) (fun j Fr0 => ((68, natV j.1) :: (11, .slice (rowA j.2.2.2.1) j.2.1.length j.2.2.2.2.1) :: (12, .slice (rowA j.2.2.2.2.2.1) j.2.2.1.length j.2.2.2.2.2.2) :: Fr0)) (fun j Fr0 => (.row 3 1 j.2.2.2.1 j.2.1.length j.2.2.2.2.1 (j.2.1.map natV) :: .row 3 1 j.2.2.2.2.2.1 j.2.2.1.length j.2.2.2.2.2.2 (j.2.2.1.map natV) :: Fr0)) (fun j => l.length - j.1) (0, us1, fs1, r11, c11, r12, c12) (⟨Nat.zero_le _, rfl, hsk0, hu0⟩) ⟨rfl, rfl, rfl, rfl, rfl, rfl, rfl, rfl, rfl, trivial⟩ ⟨[0, 1, 2, 3], by decide, rfl⟩ ?_
          rintro ⟨q, u1, f1, r11, c11, r12, c12⟩ ⟨hq, hps, hsk, hat⟩
          simp only at hq hps hsk hat ⊢
          have hs1 := hsk.len1
          have hs2 := hsk.len2
          simp only at hs1 hs2
          have hatl1 := (List.getElem?_eq_some_iff.1 hat).1
          clear hatl
          refine gc_seq ?_
          refine gc_region ?_
          refine gl_op (op_rd rfl (rd_lss rfl rfl) (gk_dec (fun hlt2 => ?_) (fun hlt2 => ?_)))
          · skip
            obtain ⟨p, hp⟩ := get_some (show q < l.length by omega)
            have hpo := hd.p p (List.mem_of_getElem? hp)
            have hpd : l.getD q default = p := getD_some hp
            refine gl_nil ?_
            refine gx_then ?_
            refine gc_seq ?_
            refine gc_cond_t rfl ?_
            refine gc_skip ?_
            refine gx_then ?_
            refine gc_seq ?_
            refine gc_block ?_
            refine gc_seq ?_
            refine gc_region ?_
            refine gl_op (op_rd rfl (rd_move rfl) ?_)
            refine gl_op (op_rd rfl (rd_indexOld hl Try.underlying22 ty_25 rfl rfl (by omega) (by omega)) ?_)
            refine gl_op (op_rd rfl (rd_loadAgg Try.underlying25 rfl ty_25 rfl (cs_slN hl (flat_drop_get Pipe.cells 3 (fun _ => rfl) hp)) rfl) ?_)
            refine gl_op (op_alloc ty_25 rfl rfl (fun b17 => ?_))
            refine gl_op (op_rd rfl (rd_assign rfl) ?_)
            first | refine gl_op (op_storeAgg 0 ty_25 rfl rfl rfl rfl rfl rfl (by first | rfl | (simp only [List.set_cons_succ, List.set_cons_zero]; exact rfl)) ?_) | refine gl_op (op_storeRowAgg 1 ty_25 rfl rfl rfl rfl rfl (by simp; omega) (by first | rfl | (simp only [List.set_cons_succ, List.set_cons_zero]; exact rfl)) ?_) | refine gl_op (op_storeRowAgg 2 ty_25 rfl rfl rfl rfl rfl (by simp; omega) (by first | rfl | (simp only [List.set_cons_succ, List.set_cons_zero]; exact rfl)) ?_) | refine gl_op (op_storeRowAgg 4 ty_25 rfl rfl rfl rfl rfl (by simp; omega) (by first | rfl | (simp only [List.set_cons_succ, List.set_cons_zero]; exact rfl)) ?_)
            refine gl_nil ?_
            refine gx_then ?_
            refine gc_seq ?_
            refine gc_seq ?_
            refine gc_drawP [0, 1, 2, 3, 4] true 13 rfl ?_
            refine ga_first 0 #[true, false, false, false, false, false, false, false, false, false, false, false, false, false] rfl rfl rfl rfl (by kernel_rfl) rfl ⟨[0, 1, 2, 3, 4], by decide, rfl⟩ (qt_rd (rd_loadAgg Try.underlying25 rfl ty_25 rfl (by first | exact cs_blk 0 (off := 0) (k := 3) rfl rfl | exact cs_old (by assumption) (by simp)) rfl)) ?_
            refine ga_first 1 #[true, true, false, false, false, false, false, false, false, false, false, false, false, false] rfl rfl rfl rfl (by kernel_rfl) rfl ⟨[0, 1, 2, 3, 4], by decide, rfl⟩ (qt_rd (rd_move rfl)) ?_
            refine ga_first 2 #[true, true, true, false, false, false, false, false, false, false, false, false, false, false] rfl rfl rfl rfl (by kernel_rfl) rfl ⟨[0, 1, 2, 3, 4], by decide, rfl⟩ (qt_rd (rd_move rfl)) ?_
            refine ga_first 3 #[true, true, true, true, false, false, false, false, false, false, false, false, false, false] rfl rfl rfl rfl (by kernel_rfl) rfl ⟨[0, 1, 2, 3, 4], by decide, rfl⟩ (qt_rd (rd_move rfl)) ?_
            refine ga_first 4 #[true, true, true, true, true, false, false, false, false, false, false, false, false, false] rfl rfl rfl rfl (by kernel_rfl) rfl ⟨[0, 1, 2, 3, 4], by decide, rfl⟩ (qt_rd (rd_indexRow1 1 rfl Try.underlying39 ty_3 rfl rfl (by omega) (by omega))) ?_
            refine ga_first 5 #[true, true, true, true, true, true, false, false, false, false, false, false, false, false] rfl rfl rfl rfl (by kernel_rfl) rfl ⟨[0, 1, 2, 3, 4], by decide, rfl⟩ (qt_rd (rd_load Try.underlying3 rfl rfl (ld_rowN 1 rfl (show (u1.map natV)[at1]? = some (natV u0) by rw [List.getElem?_map, hat]; rfl)))) ?_
            refine ga_first 6 #[true, true, true, true, true, true, true, false, false, false, false, false, false, false] rfl rfl rfl rfl (by kernel_rfl) rfl ⟨[0, 1, 2, 3, 4], by decide, rfl⟩ (qt_rd (rd_indexOld hw Try.underlying23 ty_29 rfl rfl (by omega) (by omega))) ?_
            refine ga_first 7 #[true, true, true, true, true, true, true, true, false, false, false, false, false, false] rfl rfl rfl rfl (by kernel_rfl) rfl ⟨[0, 1, 2, 3, 4], by decide, rfl⟩ (qt_rd (rd_loadAgg Try.underlying29 rfl ty_29 rfl (cs_slN hw (flat_drop_get Wish.cells 5 (fun _ => rfl) hx)) rfl)) ?_
            refine ga_first 8 #[true, true, true, true, true, true, true, true, true, false, false, false, false, false] rfl rfl rfl rfl (by kernel_rfl) rfl ⟨[0, 1, 2, 3, 4], by decide, rfl⟩ (qt_call (vf := []) (vc := []) rfl rfl Try.call23 (fun w1 ho => fit_ok p x hpo hxo w1) (by rintro _ _ ⟨h, _⟩; exact h)) ?_
            refine ga_first 9 #[true, true, true, true, true, true, true, true, true, true, false, false, false, false] rfl rfl rfl rfl (by kernel_rfl) rfl ⟨[0, 1, 2, 3, 4], by decide, rfl⟩ (qt_rd (rd_move rfl)) ?_
            refine ga_first 10 #[true, true, true, true, true, true, true, true, true, true, true, false, false, false] rfl rfl rfl rfl (by kernel_rfl) rfl ⟨[0, 1, 2, 3, 4], by decide, rfl⟩ (qt_rd (rd_extract rfl rfl)) ?_
            refine ga_first 11 #[true, true, true, true, true, true, true, true, true, true, true, true, false, false] rfl rfl rfl rfl (by kernel_rfl) rfl ⟨[0, 1, 2, 3, 4], by decide, rfl⟩ (qt_rd (rd_extract rfl rfl)) ?_
            refine gk_bool (fun hfit => ?_) (fun hfit => ?_)
            · skip
              have hfp : fits p x = true := by cases h : fits p x with
                | true => rfl
                | false => rw [fitP, h] at hfit; cases hfit
              refine ga_first 12 #[true, true, true, true, true, true, true, true, true, true, true, true, true, false] rfl rfl rfl rfl (by kernel_rfl) rfl ⟨[0, 1, 2, 3, 4], by decide, rfl⟩ (qt_rd (rd_assign rfl)) ?_
              refine ga_first 13 #[true, true, true, true, true, true, true, true, true, true, true, true, true, true] rfl rfl rfl rfl (by kernel_rfl) rfl ⟨[0, 1, 2, 3, 4], by decide, rfl⟩ (qt_rd (rd_assign rfl)) ?_
              refine ga_end (by kernel_rfl) (.inr ⟨[0, 1, 2, 3, 4], by decide, rfl⟩) ?_
              refine gx_then ?_
              refine gc_seq ?_
              refine gc_region ?_
              refine gl_op (op_rd rfl (rd_move rfl) ?_)
              refine gl_op (op_rd rfl (rd_not rfl) ?_)
              refine gl_op (op_rd rfl (rd_move rfl) ?_)
              refine gl_yes rfl rfl (op_rd rfl (rd_move rfl) ?_)
              refine gl_yes rfl rfl (op_rd rfl (rd_move rfl) ?_)
              refine gl_yes rfl rfl (op_call rfl (vf := []) (vc := []) rfl rfl Try.call35 (fun w2 ho => contains_ok f1 q (rowA r12) c12 w2 (ho.rowSl 2 rfl) (by omega)) ?_)
              rintro _ _ ⟨rfl, rfl⟩
              refine gk_bool (fun hc90 => ?_) (fun hc90 => ?_)
              · skip
                have hskip : (!fits (l.getD q default) x || decide (q ∈ (u1, f1).2)) = true := by rw [hc90, Bool.or_true]
                refine gl_op (op_rd rfl (rd_pick_f rfl rfl) ?_)
                refine gl_nil ?_
                refine gx_then ?_
                refine gc_cond_t rfl ?_
                refine gc_exit ?_
                refine gx_then_exit ?_
                refine gx_block_exit ?_
                refine gx_then ?_
                refine gc_region ?_
                refine gl_op (op_rd rfl (by first | exact rd_addN (b := 1) rfl rfl (by omega) | exact rd_add rfl rfl (by omega) (by omega)) ?_)
                refine gl_op (op_rd rfl (rd_move rfl) ?_)
                refine gl_nil ?_
                refine gx_then ?_
                exact gx_cut ((q + 1, u1, f1, r11, c11, r12, c12)) ⟨⟨by simp only; omega, by simp only; rw [passTo_succ, ← hps]; unfold stepS; rw [if_pos hskip], hsk, hat⟩, by simp only; omega⟩ ⟨rfl, rfl, rfl, rfl, rfl, rfl, rfl, rfl, rfl, trivial⟩ ⟨[1, 2, 3, 4], by decide, rfl⟩
              · skip
                have hnskip : (!fits (l.getD q default) x || decide (q ∈ (u1, f1).2)) = false := by rw [hpd, hfp, hc90]; rfl
                have hnin : ¬ q ∈ f1 := of_decide_eq_false hc90
                refine gl_op (op_rd rfl (rd_pick_f rfl rfl) ?_)
                refine gl_nil ?_
                refine gx_then ?_
                refine gc_cond_f rfl ?_
                refine gc_skip ?_
                refine gx_then ?_
                refine gc_seq ?_
                refine gc_region ?_
                refine gl_op (op_rd rfl (rd_move rfl) ?_)
                refine gl_op (op_rd rfl (rd_move rfl) ?_)
                refine gl_op (op_buildSlice (sz := 1) rfl rfl (fun _ => bs_39_1_0 _) rfl rfl (fun b94 => ?_))
                refine gl_op (op_appendRow 3 0 Try.underlying39 ty_3 rfl (by decide) rfl rfl rfl rfl rfl (by simp [Value.oneCell']) (by omega) (by omega) (fun _ => (by first | rfl | (simp only [List.set_cons_succ, List.set_cons_zero]; exact rfl))) (fun r95 c95 => ?_))
                refine gl_op (op_rd rfl (rd_assign rfl) ?_)
                refine gl_nil ?_
                refine gx_then ?_
                refine gc_seq ?_
                refine gc_region ?_
                refine gl_op (op_rd rfl (rd_move rfl) ?_)
                refine gl_op (op_rd rfl (rd_move rfl) ?_)
                refine gl_op (op_rd rfl (rd_lookupV 4 hkv rfl Try.underlying74 Try.underlying3 ty_3 rfl rfl) ?_)
                refine gl_op (op_rd rfl (rd_assign rfl) ?_)
                refine gl_nil ?_
                refine gx_then ?_
                refine gc_seq ?_
                rw [lkv_col, snocN, snoc_len f1 q]
                have hcl : colOf ol q < w.length := by rw [← holn]; exact colOf_lt (by omega) q
                refine gc_region ?_
                refine gl_op (op_rd rfl (rd_move rfl) ?_)
                refine gl_op (op_rd rfl (rd_move rfl) ?_)
                refine gl_op (op_call rfl (vf := []) (vc := []) rfl rfl Try.call35 (fun w2 ho => contains_ok u1 (colOf ol q) (rowA r11) c11 w2 (ho.rowSl 2 rfl) (by omega)) ?_)
                rintro _ _ ⟨rfl, rfl⟩
                refine gk_bool (fun hc101 => ?_) (fun hc101 => ?_)
                · skip
                  refine gl_op (op_rd rfl (rd_not rfl) ?_)
                  refine gl_nil ?_
                  refine gx_then ?_
                  refine gc_cond_f rfl ?_
                  refine gc_skip ?_
                  refine gx_block ?_
                  refine gx_then ?_
                  refine gc_region ?_
                  refine gl_op (op_rd rfl (by first | exact rd_addN (b := 1) rfl rfl (by omega) | exact rd_add rfl rfl (by omega) (by omega)) ?_)
                  refine gl_op (op_rd rfl (rd_move rfl) ?_)
                  refine gl_nil ?_
                  refine gx_then ?_
                  exact gx_cut ((q + 1, u1, f1 ++ [q], r11, c11, r95, c95)) ⟨⟨by simp only; omega, by simp only; rw [passTo_succ, ← hps]; unfold stepS; rw [if_neg (by rw [hnskip]; decide)]; simp only; rw [if_pos (of_decide_eq_true hc101)], hsk.fit (by omega) hnin, hat⟩, by simp only; omega⟩ ⟨rfl, rfl, rfl, rfl, rfl, rfl, rfl, rfl, rfl, trivial⟩ ⟨[2, 3, 4, 5], by decide, rfl⟩
                · skip
                  refine gl_op (op_rd rfl (rd_not rfl) ?_)
                  refine gl_nil ?_
                  refine gx_then ?_
                  refine gc_cond_t rfl ?_
                  refine gc_region ?_
                  refine gl_op (op_rd rfl (rd_move rfl) ?_)
                  refine gl_op (op_rd rfl (rd_move rfl) ?_)
                  refine gl_op (op_buildSlice (sz := 1) rfl rfl (fun _ => bs_39_1_0 _) rfl rfl (fun b105 => ?_))
                  refine gl_op (op_appendRow 3 0 Try.underlying39 ty_3 rfl (by decide) rfl rfl rfl rfl rfl (by simp [Value.oneCell']) (by omega) (by omega) (fun _ => (by first | rfl | (simp only [List.set_cons_succ, List.set_cons_zero]; exact rfl))) (fun r106 c106 => ?_))
                  refine gl_op (op_rd rfl (rd_assign rfl) ?_)
                  refine gl_nil ?_
                  refine gx_block ?_
                  refine gx_then ?_
                  rw [snocN, snoc_len u1 (colOf ol q)]
                  refine gc_region ?_
                  refine gl_op (op_rd rfl (by first | exact rd_addN (b := 1) rfl rfl (by omega) | exact rd_add rfl rfl (by omega) (by omega)) ?_)
                  refine gl_op (op_rd rfl (rd_move rfl) ?_)
                  refine gl_nil ?_
                  refine gx_then ?_
                  exact gx_cut ((q + 1, u1 ++ [colOf ol q], f1 ++ [q], r106, c106, r95, c95)) ⟨⟨by simp only; omega, by simp only; rw [passTo_succ, ← hps]; unfold stepS; rw [if_neg (by rw [hnskip]; decide)]; simp only; rw [if_neg (of_decide_eq_false hc101)], (hsk.add hcl (of_decide_eq_false hc101)).fit (by omega) hnin, by simp only; rw [List.getElem?_append_left (by omega)]; exact hat⟩, by simp only; omega⟩ ⟨rfl, rfl, rfl, rfl, rfl, rfl, rfl, rfl, rfl, trivial⟩ ⟨[3, 4, 5, 6], by decide, rfl⟩
            · skip
              have hskip : (!fits (l.getD q default) x || decide (q ∈ (u1, f1).2)) = true := by
                rw [hpd]
                cases h : fits p x with
                | false => rfl
                | true => rw [fitP, h] at hfit; cases hfit
              refine ga_first 12 #[true, true, true, true, true, true, true, true, true, true, true, true, true, false] rfl rfl rfl rfl (by kernel_rfl) rfl ⟨[0, 1, 2, 3, 4], by decide, rfl⟩ (qt_rd (rd_assign rfl)) ?_
              refine ga_first 13 #[true, true, true, true, true, true, true, true, true, true, true, true, true, true] rfl rfl rfl rfl (by kernel_rfl) rfl ⟨[0, 1, 2, 3, 4], by decide, rfl⟩ (qt_rd (rd_assign rfl)) ?_
              refine ga_end (by kernel_rfl) (.inr ⟨[0, 1, 2, 3, 4], by decide, rfl⟩) ?_
              refine gx_then ?_
              refine gc_seq ?_
              refine gc_region ?_
              refine gl_op (op_rd rfl (rd_move rfl) ?_)
              refine gl_op (op_rd rfl (rd_not rfl) ?_)
              refine gl_op (op_rd rfl (rd_move rfl) ?_)
              refine gl_no rfl rfl rfl ?_
              refine gl_no rfl rfl rfl ?_
              refine gl_no rfl rfl rfl ?_
              refine gl_op (op_rd rfl (rd_pick_t rfl rfl) ?_)
              refine gl_nil ?_
              refine gx_then ?_
              refine gc_cond_t rfl ?_
              refine gc_exit ?_
              refine gx_then_exit ?_
              refine gx_block_exit ?_
              refine gx_then ?_
              refine gc_region ?_
              refine gl_op (op_rd rfl (by first | exact rd_addN (b := 1) rfl rfl (by omega) | exact rd_add rfl rfl (by omega) (by omega)) ?_)
              refine gl_op (op_rd rfl (rd_move rfl) ?_)
              refine gl_nil ?_
              refine gx_then ?_
              exact gx_cut ((q + 1, u1, f1, r11, c11, r12, c12)) ⟨⟨by simp only; omega, by simp only; rw [passTo_succ, ← hps]; unfold stepS; rw [if_pos hskip], hsk, hat⟩, by simp only; omega⟩ ⟨rfl, rfl, rfl, rfl, rfl, rfl, rfl, rfl, rfl, trivial⟩ ⟨[1, 2, 3, 4], by decide, rfl⟩
          · skip
            have hps2 : (u1, f1) = passTo l ol x (us1, fs1) l.length := by rw [hps, show q = l.length by omega]
            have hgo2 := hgo
            refine gl_nil ?_
            refine gx_then ?_
            refine gc_seq ?_
            refine gc_cond_f rfl ?_
            refine gc_exit ?_
            refine gx_then_exit ?_
            refine gx_then_exit ?_
            refine gx_block_exit ?_
            refine gx_block ?_
            refine gx_then ?_
            refine gc_region ?_
            refine gl_op (op_rd rfl (rd_move rfl) ?_)
            refine gl_op (op_rd rfl (by first | exact rd_addN (b := 1) rfl rfl (by omega) | exact rd_add rfl rfl (by omega) (by omega)) ?_)
            refine gl_op (op_rd rfl (rd_assign rfl) ?_)
            refine gl_nil ?_
            refine gx_then ?_
            exact gx_cut ((f, at1 + 1, u1, f1, r11, c11, r12, c12)) ⟨⟨by simp only; rw [hps2]; exact hgo2, hsk, by simp only; have := (List.getElem?_eq_some_iff.1 hat).1; omega⟩, by simp only; omega⟩ ⟨rfl, rfl, rfl, rfl, rfl, rfl, trivial⟩ ⟨[0, 1, 2, 3], by decide, rfl⟩
        · skip
          obtain rfl : (us1, fs1) = sf := by
            cases f with
            | zero => rw [shortGo, if_neg (by simp only; omega)] at hgo; exact Option.some.inj hgo
            | succ f => rw [shortGo, if_neg (by simp only; omega)] at hgo; exact Option.some.inj hgo
          simp only at hsu hsf
          have hs1 := hsk0.len1
          have hs2 := hsk0.len2
          simp only at hs1 hs2
          refine gl_nil ?_
          refine gx_then ?_
          refine gc_cond_f rfl ?_
          refine gc_exit ?_
          refine gx_then_exit ?_
          refine gx_then_exit ?_
          refine gx_block_exit ?_
          refine gx_then ?_
          refine gc_seq ?_
          refine gc_region ?_
          refine gl_op (op_rd rfl (rd_move rfl) ?_)
          refine gl_op (op_callM [0] [1, 2, 3] rfl (vf := []) (vc := []) rfl rfl Try.call36 (by decide) rfl (fun wz how hc => sort_ok us1 r11 c11 _ wz hc (by omega)) ?_)
          rintro _ _ rfl
          refine gl_nil ?_
          refine gx_then ?_
          refine gc_seq ?_
          refine gc_region ?_
          refine gl_op (op_rd rfl (rd_move rfl) ?_)
          refine gl_op (op_callM [1] [0, 2, 3] rfl (vf := []) (vc := []) rfl rfl Try.call36 (by decide) rfl (fun wz how hc => sort_ok fs1 r12 c12 _ wz hc (by omega)) ?_)
          rintro _ _ rfl
          refine gl_nil ?_
          refine gx_then ?_
          refine gc_seq ?_
          refine gc_region ?_
          refine gl_op (op_rd rfl (rd_move rfl) ?_)
          refine gl_op (op_rd rfl (rd_move rfl) ?_)
          refine gl_op (op_rd rfl (rd_assign rfl) ?_)
          refine gl_op (op_rd rfl (rd_assign rfl) ?_)
          refine gl_op (op_rd rfl (rd_assign rfl) ?_)
          refine gl_nil ?_
          refine gx_then ?_
          refine gc_ret ?_
          refine gx_ret3 (.inl rfl) Try.results17 rfl rfl rfl [1, 0] (by decide) ?_
          exact ⟨r11, c11, r12, c12, by rw [← hsu, ← hsf, srt_len, srt_len]; exact ⟨rfl, rfl⟩⟩

end Go.Proofs.Yteiopfefmphhaaa
