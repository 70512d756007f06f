import Derived.Test.YteocjpnckciboaaPl
/- The walks of the reference: reach, way, ends. -/
set_option linter.unusedSimpArgs false
set_option linter.unusedVariables false
set_option linter.unnecessarySimpa false
set_option autoImplicit false
set_option linter.unusedVariables false
namespace Go.Gv
open Go.RowKit
section
variable {P : Program} {n : Nat} {Q : Exit → Act → World → Prop} {K : Act → World → Prop} {e : Env} {w0 : World} {S : List Nat} {l : List HL} {d : Nat} {ty : TypeId} {pos : String} {aft : Array Edge} {gd : Option (Nat × Bool)}
theorem set_self {l : List HL} {i : Nat} {x : HL} (hi : l[i]? = some x) : l.set i x = l := by
  apply List.ext_getElem?
  intro j
  rw [List.getElem?_set]
  split
  · rename_i h; subst h
    split
    · exact hi.symm
    · rename_i h2; simp [List.getElem?_eq_none (by omega : l.length ≤ i)] at hi
  · rfl
/-- a row of one's own, be it nil, is appended -/
theorem op_appendRowO (i i2 : Nat) {t E E2 : TypeId} {z : Value} {size bytes : Nat} {x y : Operand} {r g : Option Nat} {m cap : Nat} {xs : List Value} {mm c : Nat} {news : List Value} (hu : P.underlying t = some (.slice E)) (ht : TyF P E z size bytes)
    (hzs : z.cells.size = size) (hsz : 0 < size) (hd : Nat.ble n d = false) (hx : e.ev x = some (.slice (rowA r) m cap)) (hy : e.ev y = some (.slice (rowA g) mm c)) (hi : l[i]? = some (.row E size r m cap xs)) (hi2 : l[i2]? = some (.row E2 size g mm c news))
    (h1 : ∀ u ∈ news, u.oneCell' = true) (hb : (m + mm) * bytes ≤ 140737488355328) (h63 : m + mm ≤ 9223372036854775807) {lf : HL → List HL} (hl' : ∀ y, l.set i y = lf y)
    (k : ∀ r' cap', GK n K ((d, .slice (rowA r') (m + mm) cap') :: e) w0 S (lf (.row E size r' (m + mm) cap' (xs ++ news)))) :
    GK n (fun a w => Oper.wp P ⟨some d, .call { callee := .builtin .append, args := #[x, y], argTypes := #[t, t] }, ty, pos, aft, gd⟩ a w K Q) e w0 S l := by
  cases g with
  | some g => exact op_appendRow i i2 hu ht hzs hsz hd hx hy hi hi2 h1 hb h63 hl' k
  | none =>
    intro ac w hs ho
    have hh2 := ho.holds _ (List.mem_of_getElem? hi2)
    obtain ⟨hn, hmm, hc⟩ := hh2
    subst hmm
    have hnews : news = [] := List.eq_nil_of_length_eq_zero (by simpa using hn)
    subst hnews
    have k' := k r cap
    rw [← hl', List.append_nil, Nat.add_zero, set_self hi] at k'
    have hh := ho.holds _ (List.mem_of_getElem? hi)
    have hr := run_append_none (P := P) (t := t) (ty := ty) hu ht hh c
    have hr2 : (execOp ac.eval ⟨some d, .call { callee := .builtin .append, args := #[x, y], argTypes := #[t, t] }, ty, pos, aft, gd⟩).run P w = .ok (.value (.slice (rowA r) m cap)) w := by
      simp only [rowA] at hy
      simp [execOp, resolve, invoke, builtin, hs.ev hx, hs.ev hy, hr]
    exact wp_value hr2 (k' _ _ (hs.put (blt_lt hd) _) ho)
end
end Go.Gv
namespace Go.Proofs.Yteocjpnckciboaa
open Go.Gv
open Go.RowKit
namespace Ry
/-! the reference's graph -/
def sV (x : Nd) : Value := natV x.state
def fV (x : Nd) : Value := .int .i64 x.frm
def gV (x : Nd) : Value := .int .i64 (if x.frm < 0 then -1 else (x.gate : Int))
def pN (ns : List Nd) (s : Nat) : Nat := if hasS ns s then pl ns s + 1 else 0
def placeL (ns : List Nd) (N : Nat) : List Nat := (List.range N).map (pN ns)
def rreachGo (c : Circ) (inn : Nat) : Nat → Nat → List Nd → List Nd
  | 0, _, ns => ns
  | f + 1, i, ns => match ns[i]? with
    | none => ns
    | some x => if 1000 < ns.length then ns else rreachGo c inn f (i + 1) (expandP i x (nextL c x.state inn) ns)
def rreachP (c : Circ) (inn : Nat) (begin : List Nat) : List Nd := rreachGo c inn 1002 0 (begsP begin)
section
variable {c : Circ} {inn : Nat}
theorem rreachGo_end {f i : Nat} {ns : List Nd} (h : ns.length ≤ i ∨ 1000 < ns.length) : rreachGo c inn f i ns = ns := by
  cases f with
  | zero => rfl
  | succ f =>
    rw [rreachGo]
    cases hx : ns[i]? with
    | none => rfl
    | some x =>
      have := (List.getElem?_eq_some_iff.1 hx).1
      simp only
      rw [if_pos (by omega)]
theorem rreachGo_step {f i : Nat} {ns : List Nd} {x : Nd} (hx : ns[i]? = some x) (hb : ns.length ≤ 1000) : rreachGo c inn (f + 1) i ns = rreachGo c inn f (i + 1) (expandP i x (nextL c x.state inn) ns) := by
  rw [rreachGo, hx]; simp only; rw [if_neg (by omega)]
theorem expandP_le (i : Nat) (x : Nd) : ∀ (ks : List Nat) (ns : List Nd), ns.length ≤ (expandP i x ks ns).length
  | [], ns => Nat.le_refl _
  | k :: ks, ns => Nat.le_trans (addN_len ns (flip x.state k) (i : Int) k).2 (expandP_le i x ks _)
theorem rreachGo_le : ∀ (f i : Nat) (ns : List Nd), ns.length ≤ (rreachGo c inn f i ns).length
  | 0, i, ns => Nat.le_refl _
  | f + 1, i, ns => by
    rw [rreachGo]
    cases hx : ns[i]? with
    | none => exact Nat.le_refl _
    | some x =>
      simp only
      split
      · exact Nat.le_refl _
      · exact Nat.le_trans (expandP_le i x _ ns) (rreachGo_le f (i + 1) _)
theorem rreach_of : ∀ (f i : Nat) (ns : List Nd), 1002 ≤ i + f → i ≤ 1001 → (∀ ms, reachGo c inn f i ns = some ms → rreachGo c inn f i ns = ms ∧ ms.length ≤ 1000) ∧ (reachGo c inn f i ns = none → 1000 < (rreachGo c inn f i ns).length)
  | 0, i, ns, h, h2 => by omega
  | f + 1, i, ns, h, h2 => by
    rw [reachGo, rreachGo]
    cases hx : ns[i]? with
    | none =>
      simp only
      split
      · exact ⟨fun ms hm => (by cases hm; exact ⟨rfl, by assumption⟩), fun hn => (by cases hn)⟩
      · exact ⟨fun ms hm => (by cases hm), fun _ => by omega⟩
    | some x =>
      have hil := (List.getElem?_eq_some_iff.1 hx).1
      simp only
      split
      · exact ⟨fun ms hm => (by cases hm), fun _ => by assumption⟩
      · exact rreach_of f (i + 1) _ (by omega) (by omega)
theorem rreach_some {begin : List Nat} {ms : List Nd} (h : reachP c inn begin = some ms) : rreachP c inn begin = ms ∧ ms.length ≤ 1000 := (rreach_of 1002 0 (begsP begin) (by decide) (by decide)).1 ms h
theorem rreach_none {begin : List Nat} (h : reachP c inn begin = none) : 1000 < (rreachP c inn begin).length := (rreach_of 1002 0 (begsP begin) (by decide) (by decide)).2 h
section
variable {ns : List Nd} {s g N : Nat} {f : Int}
theorem addN_len1 (h : hasS ns s = false) : ns.length + 1 = (addN ns s f g).length := by rw [addN_f h]; simp
theorem sV_add (h : hasS ns s = false) : ns.map sV ++ [natV s] = (addN ns s f g).map sV := by rw [addN_f h]; simp [sV]
theorem fV_add (h : hasS ns s = false) : ns.map fV ++ [.int .i64 f] = (addN ns s f g).map fV := by rw [addN_f h]; simp [fV]
theorem gV_add0 (h : hasS ns s = false) : ns.map gV ++ [.int .i64 (-1)] = (addN ns s (-1) 0).map gV := by rw [addN_f h]; simp [gV]
theorem gV_add (h : hasS ns s = false) (i : Nat) : ns.map gV ++ [natV g] = (addN ns s (i : Int) g).map gV := by
  rw [addN_f h, List.map_append, List.map_singleton, gV, if_neg (show ¬ ((i : Int) < 0) by omega)]
theorem lk_app (ns : List Nd) (x : Nd) (t i : Nat) : lk (t : Int) (plc (ns ++ [x]) i) = if hasS ns t then lk (t : Int) (plc ns i) else if t = x.state then some ((i + ns.length : Nat) : Int) else none := by
  induction ns generalizing i with
  | nil =>
    by_cases h : t = x.state
    · simp [plc, lk, hasS, h]
    · have : ¬ (t : Int) = (x.state : Int) := by omega
      simp [plc, lk, hasS, h, this]
  | cons y ns ih =>
    by_cases h : t = y.state
    · simp [plc, lk, hasS, h]
    · have h1 : ¬ (t : Int) = (y.state : Int) := by omega
      have h2 : (y.state == t) = false := by simp; omega
      have h3 : hasS (y :: ns) t = hasS ns t := by simp [hasS, h2]
      simp only [List.cons_append, plc, lk, h1, if_false, ih, h3, List.length_cons]
      split
      · rfl
      · split
        · congr 2; omega
        · rfl
theorem hasS_app (ns : List Nd) (x : Nd) (t : Nat) : hasS (ns ++ [x]) t = (hasS ns t || x.state == t) := by simp [hasS]
theorem pN_add (h : hasS ns s = false) (t : Nat) : pN (addN ns s f g) t = if s = t then ns.length + 1 else pN ns t := by
  rw [addN_f h]
  unfold pN pl
  rw [hasS_app, lk_app]
  by_cases e : s = t
  · subst e; simp [h]
  · have e' : ¬ t = s := fun h => e h.symm
    simp only [if_neg e, if_neg e', show (s == t) = false by simpa using e, Bool.or_false]
    split
    · rfl
    · rfl
theorem place_len : (placeL ns N).length = N := by simp [placeL]
theorem place_add (h : hasS ns s = false) (hs : s < N) : (placeL ns N).set s (ns.length + 1) = placeL (addN ns s f g) N := by
  unfold placeL
  apply List.ext_getElem (by simp)
  intro j h1 h2
  simp only [List.getElem_set, List.getElem_map, List.getElem_range, pN_add h]
theorem place_get (hs : s < N) : (placeL ns N).getD s 0 = pN ns s := by simp [placeL, hs]
theorem place_nil : placeL [] N = List.replicate N 0 := by
  unfold placeL
  apply List.ext_getElem (by simp)
  intro j h1 h2
  simp [pN, hasS]
theorem pN_zero : pN ns s = 0 ↔ hasS ns s = false := by
  unfold pN
  cases hasS ns s <;> simp
theorem pN_pos (h : hasS ns s = true) : pN ns s = pl ns s + 1 := by simp [pN, h]
theorem wayP_end {i : Nat} {x : Nd} (hx : ns[i]? = some x) (h : x.frm < 0) : wayP ns i = [] := by unfold wayP; rw [wayR_end hx h]; rfl
theorem wayP_step (hw : Wf ns) {i k : Nat} {x : Nd} (hx : ns[i]? = some x) (h : x.frm = (k : Nat)) : wayP ns i = wayP ns k ++ [x.gate] := by unfold wayP; rw [wayR_step hw hx h, List.reverse_cons]
end
end
/-- the reached in memory -/
structure Rch where
  ns : List Nd
  rs : Option Nat
  cs : Nat
  rf : Option Nat
  cf : Nat
  rg : Option Nat
  cg : Nat
structure RAd where
  s : Option Addr
  cs : Nat
  f : Option Addr
  cf : Nat
  g : Option Addr
  cg : Nat
  p : Option Addr
def RAd.cells (r : RAd) (ns : List Nd) (N : Nat) : List Value := [.slice r.s ns.length r.cs, .slice r.f ns.length r.cf, .slice r.g ns.length r.cg, .slice r.p N N]
structure RIn (ns : List Nd) (N : Nat) (r : RAd) (w : World) : Prop where
  s : OldSl w [] r.s ns.length 1 (ns.map sV)
  f : OldSl w [] r.f ns.length 1 (ns.map fV)
  g : OldSl w [] r.g ns.length 1 (ns.map gV)
  p : OldSl w [] r.p N 1 ((placeL ns N).map natV)
theorem RIn.at {ns : List Nd} {N : Nat} {r : RAd} {w0 w : World} {l : List HL} (h : RIn ns N r w0) (ho : Own w0 [] w l) : RIn ns N r w := ⟨h.s.at ho, h.f.at ho, h.g.at ho, h.p.at ho⟩
theorem get_sV {ns : List Nd} {i : Nat} {x : Nd} (h : ns[i]? = some x) : (ns.map sV)[i]? = some (natV x.state) := by simp [h, sV]
theorem get_fV {ns : List Nd} {i : Nat} {x : Nd} (h : ns[i]? = some x) : (ns.map fV)[i]? = some (.int .i64 x.frm) := by simp [h, fV]
theorem get_gV {ns : List Nd} {i : Nat} {x : Nd} (h : ns[i]? = some x) (h0 : 0 ≤ x.frm) : (ns.map gV)[i]? = some (natV x.gate) := by
  rw [List.getElem?_map, h, Option.map_some, gV, if_neg (by omega)]
theorem get_gV' {ns : List Nd} {i : Nat} {x : Nd} (h : ns[i]? = some x) (h0 : 0 ≤ x.frm) : (ns.map gV)[i]? = some (.int .i64 (x.gate : Int)) := get_gV h h0
theorem one_shl (n : Nat) : 1 <<< n = 2 ^ n := Nat.one_shiftLeft n
end Ry
end Go.Proofs.Yteocjpnckciboaa

set_option autoImplicit false
set_option linter.unusedVariables false
namespace Go.Proofs.Yteocjpnckciboaa
open Go.Gv
open Go.RowKit
open Ry
set_option maxRecDepth 100000 in
set_option maxHeartbeats 1000000 in
theorem rreach_ok (c : Circ) (begin : List Nat) (a : Option Addr) (scp : Nat) (inn : Nat) (w0 : World) (hc : c.In w0 []) (hgd : c.Good) (hin : inn < 2 ^ c.inputs.toNat) (hsl : OldSl w0 [] a begin.length 1 (begin.map natV)) (hbs : ∀ s ∈ begin, s < 2 ^ c.gates.length) (hbl : begin.length ≤ 50000) : Sp Try.prog 67 [c.val, .slice a begin.length scp, natV inn, .int .i64 1000] w0 [] (fun v l => ∃ rs cs rf cf rg cg b, v = .agg #[.slice (rowA rs) (rreachP c inn begin).length cs, .slice (rowA rf) (rreachP c inn begin).length cf, .slice (rowA rg) (rreachP c inn begin).length cg, .slice (rowA (some b)) (1 <<< c.gates.length) (1 <<< c.gates.length)] ∧ l = [.row 3 1 rs (rreachP c inn begin).length cs ((rreachP c inn begin).map sV), .row 3 1 rf (rreachP c inn begin).length cf ((rreachP c inn begin).map fV), .row 3 1 rg (rreachP c inn begin).length cg ((rreachP c inn begin).map gV), .row 3 1 (some b) (1 <<< c.gates.length) (1 <<< c.gates.length) ((placeL (rreachP c inn begin) (1 <<< c.gates.length)).map natV)]) := by
  have hin2 := in_lt hgd hin
  have hg12 := hgd.g12
  have hpow : 2 ^ c.gates.length ≤ 2 ^ 12 := Nat.pow_le_pow_right (by decide) hg12
  have hN : 1 <<< c.gates.length ≤ 4096 := by rw [one_shl]; omega
  have hN0 : 1 * 2 ^ c.gates.length < 9223372036854775808 := by omega
  refine spec_enter Try.func67 rfl Try.ntmps67 rfl (Own.refl _) ?_
  simp only [argEnv]
  refine gc_seq ?_
  refine gc_region ?_
  refine gl_op (op_box rfl rfl rfl (fun b4 => ?_))
  refine gl_op (op_alloc ty_91 rfl rfl (fun b8 => ?_))
  refine gl_nil ?_
  refine gx_then ?_
  refine gc_seq ?_
  refine gc_region ?_
  refine gl_op (op_rd rfl (rd_fieldAddr rfl (fa_25_1 _)) ?_)
  refine gl_op (op_rd rfl (rd_load Try.underlying22 rfl rfl (by first | exact ld_blk 0 rfl rfl | exact ld_blk 1 rfl rfl | exact ld_old (by assumption) (by simp) | exact ld_cells (by assumption) (by simp) rfl)) ?_)
  refine gl_op (op_rd rfl (rd_lenSlice Try.underlying22 rfl) ?_)
  refine gl_op (op_rd rfl (rd_conv Try.runUnderlying3 Try.runUnderlying58 rfl (wrap_u64_nat (by omega))) ?_)
  refine gl_op (op_rd rfl (rd_shl (a := 1) rfl rfl (by omega) (by omega)) ?_)
  refine gl_op (op_makeSlice (1 <<< c.gates.length) Try.underlying23 ty_3 rfl rfl rfl (by omega) (by omega) (by omega) (by omega) (fun b20 => ?_))
  refine gl_op (op_rd rfl (rd_build rfl (fun _ => bd_91_3 _ _ _)) ?_)
  refine gl_op (op_alloc ty_91 rfl rfl (fun b9 => ?_))
  first | refine gl_op (op_storeAgg 0 ty_91 rfl rfl rfl rfl rfl rfl (by first | rfl | (simp only [List.set_cons_succ, List.set_cons_zero]; exact rfl)) ?_) | refine gl_op (op_storeAgg 2 ty_91 rfl rfl rfl rfl rfl rfl (by first | rfl | (simp only [List.set_cons_succ, List.set_cons_zero]; exact rfl)) ?_) | refine gl_op (op_storeAgg 3 ty_91 rfl rfl rfl rfl rfl rfl (by first | rfl | (simp only [List.set_cons_succ, List.set_cons_zero]; exact rfl)) ?_)
  refine gl_nil ?_
  refine gx_then ?_
  refine gc_seq ?_
  refine gc_seq ?_
  refine gk_nil 3 1 ?_
  refine gk_nil 3 1 ?_
  refine gk_nil 3 1 ?_
  rw [made_one _ rfl, show (List.replicate (1 <<< c.gates.length) (Value.int .i64 0)) = (placeL [] (1 <<< c.gates.length)).map natV by rw [place_nil]; simp]
  refine gc_region ?_
  refine gl_op (op_rd rfl (rd_assign rfl) ?_)
  refine gl_nil ?_
  refine gx_then ?_
  refine gc_block ?_
  refine gc_loopF (ι := Nat × Rch) [(1, _), (2, _), (3, _), (4, _), (8, _), (9, _)] [_, _] (fun j => j.1 ≤ begin.length ∧ j.2.ns = begsP (begin.take j.1) ∧ (∀ x ∈ j.2.ns, x.state < 2 ^ c.gates.length) ∧ j.2.ns.length ≤ j.1) (fun j Fr0 => ((10, natV j.1) :: Fr0)) (fun j Fr0 => (.blk b9 [.slice (rowA j.2.rs) j.2.ns.length j.2.cs, .slice (rowA j.2.rf) j.2.ns.length j.2.cf, .slice (rowA j.2.rg) j.2.ns.length j.2.cg, .slice (rowA (some b20)) (1 <<< c.gates.length) (1 <<< c.gates.length)] 91 :: .row 3 1 j.2.rs j.2.ns.length j.2.cs (j.2.ns.map sV) :: .row 3 1 j.2.rf j.2.ns.length j.2.cf (j.2.ns.map fV) :: .row 3 1 j.2.rg j.2.ns.length j.2.cg (j.2.ns.map gV) :: .row 3 1 (some b20) (1 <<< c.gates.length) (1 <<< c.gates.length) ((placeL j.2.ns (1 <<< c.gates.length)).map natV) :: Fr0)) (fun j => begin.length - j.1) (0, ⟨[], none, 0, none, 0, none, 0⟩) (⟨Nat.zero_le _, rfl, by simp, Nat.le_refl _⟩) ⟨rfl, rfl, rfl, rfl, rfl, rfl, rfl, trivial⟩ ⟨[3, 0, 1, 2, 4, 5, 6], by decide, rfl⟩ ?_
  rintro ⟨i, ns, rs, cs, rf, cf, rg, cg⟩ ⟨hi, hns, hst, hln⟩
  simp only at hi hns hst hln ⊢
  refine gc_seq ?_
  refine gc_seq ?_
  refine gc_region ?_
  refine gl_op (op_rd rfl (rd_move rfl) ?_)
  refine gl_op (op_rd rfl (rd_move rfl) ?_)
  refine gl_op (op_rd rfl (rd_lenSlice Try.underlying23 rfl) ?_)
  refine gl_op (op_rd rfl (rd_lss rfl rfl) (gk_dec (fun hlt => ?_) (fun hlt => ?_)))
  · skip
    have hil : i < begin.length := by omega
    have hsi : begin.getD i 0 < 2 ^ c.gates.length := hbs _ (mem_getD (d := 0) hil)
    have hsi2 : begin.getD i 0 < 1 <<< c.gates.length := by rw [one_shl]; exact hsi
    refine gl_nil ?_
    refine gx_then ?_
    refine gc_cond_t rfl ?_
    refine gc_skip ?_
    refine gx_then ?_
    refine gc_seq ?_
    refine gc_block ?_
    refine gc_seq ?_
    refine gc_drawP [0, 1, 2, 3, 4, 5, 6] true 8 rfl ?_
    refine ga_first 0 #[true, false, false, false, false, false, false, false, false] rfl rfl rfl rfl (by kernel_rfl) rfl ⟨[0, 1, 2, 3, 4, 5, 6], by decide, rfl⟩ (qt_rd (rd_fieldAddr rfl (fa_91_3 _))) ?_
    refine ga_first 1 #[true, true, false, false, false, false, false, false, false] rfl rfl rfl rfl (by kernel_rfl) rfl ⟨[0, 1, 2, 3, 4, 5, 6], by decide, rfl⟩ (qt_rd (rd_load Try.underlying23 rfl rfl (by first | exact ld_blk 0 rfl rfl | exact ld_blk 5 rfl rfl | exact ld_blk 6 rfl rfl | exact ld_old (by assumption) (by simp) | exact ld_cells (by assumption) (by simp) rfl))) ?_
    refine ga_first 2 #[true, true, true, false, false, false, false, false, false] rfl rfl rfl rfl (by kernel_rfl) rfl ⟨[0, 1, 2, 3, 4, 5, 6], by decide, rfl⟩ (qt_rd (rd_move rfl)) ?_
    refine ga_first 3 #[true, true, true, true, false, false, false, false, false] rfl rfl rfl rfl (by kernel_rfl) rfl ⟨[0, 1, 2, 3, 4, 5, 6], by decide, rfl⟩ (qt_rd (rd_move rfl)) ?_
    refine ga_first 4 #[true, true, true, true, true, false, false, false, false] rfl rfl rfl rfl (by kernel_rfl) rfl ⟨[0, 1, 2, 3, 4, 5, 6], by decide, rfl⟩ (qt_rd (by first | exact rd_indexRow1 1 rfl Try.underlying23 ty_3 rfl rfl (by omega) (by omega) | exact rd_indexRow1 2 rfl Try.underlying23 ty_3 rfl rfl (by omega) (by omega) | exact rd_indexRow1 3 rfl Try.underlying23 ty_3 rfl rfl (by omega) (by omega) | exact rd_indexRow1 4 rfl Try.underlying23 ty_3 rfl rfl (by omega) (by omega) | exact rd_indexOld1 (by assumption) Try.underlying23 ty_3 rfl rfl (by omega) (by omega) | exact rd_index1 Try.underlying23 ty_3 rfl rfl (by omega) (by omega))) ?_
    refine ga_first 5 #[true, true, true, true, true, true, false, false, false] rfl rfl rfl rfl (by kernel_rfl) rfl ⟨[0, 1, 2, 3, 4, 5, 6], by decide, rfl⟩ (qt_rd (rd_load Try.underlying3 rfl rfl (ld_slN hsl (get_nats hil)))) ?_
    refine ga_first 6 #[true, true, true, true, true, true, true, false, false] rfl rfl rfl rfl (by kernel_rfl) rfl ⟨[0, 1, 2, 3, 4, 5, 6], by decide, rfl⟩ (qt_rd (rd_indexRow1 4 rfl Try.underlying23 ty_3 rfl rfl (by omega) (by omega))) ?_
    refine ga_first 7 #[true, true, true, true, true, true, true, true, false] rfl rfl rfl rfl (by kernel_rfl) rfl ⟨[0, 1, 2, 3, 4, 5, 6], by decide, rfl⟩ (qt_rd (rd_load Try.underlying3 rfl rfl (ld_rowN 4 rfl (get_nats (by rw [place_len]; omega))))) ?_
    rw [place_get hsi2]
    refine ga_first 8 #[true, true, true, true, true, true, true, true, true] rfl rfl rfl rfl (by kernel_rfl) rfl ⟨[0, 1, 2, 3, 4, 5, 6], by decide, rfl⟩ (qt_rd (rd_eql rfl rfl)) (gk_dec (fun h36 => ?_) (fun h36 => ?_))
    · skip
      have hh : hasS ns (begin.getD i 0) = false := pN_zero.1 (by omega)
      refine ga_end (by kernel_rfl) (.inr ⟨[0, 1, 2, 3, 4, 5, 6], by decide, rfl⟩) ?_
      refine gx_then ?_
      refine gc_cond_t rfl ?_
      refine gc_seq ?_
      refine gc_drawP [0, 2, 3, 4] false 9 rfl ?_
      refine ga_first 0 #[true, false, false, false, false, false, false, false, false, false] rfl rfl rfl rfl (by kernel_rfl) rfl ⟨[0, 2, 3, 4], by decide, rfl⟩ (qt_rd (rd_fieldAddr rfl (fa_91_0 _))) ?_
      refine ga_first 1 #[true, true, false, false, false, false, false, false, false, false] rfl rfl rfl rfl (by kernel_rfl) rfl ⟨[0, 2, 3, 4], by decide, rfl⟩ (qt_rd (rd_load Try.underlying23 rfl rfl (by first | exact ld_blk 0 rfl rfl | exact ld_old (by assumption) (by simp) | exact ld_cells (by assumption) (by simp) rfl))) ?_
      refine ga_first 2 #[true, true, true, false, false, false, false, false, false, false] rfl rfl rfl rfl (by kernel_rfl) rfl ⟨[0, 2, 3, 4], by decide, rfl⟩ (qt_rd (rd_move rfl)) ?_
      refine ga_first 3 #[true, true, true, true, false, false, false, false, false, false] rfl rfl rfl rfl (by kernel_rfl) rfl ⟨[0, 2, 3, 4], by decide, rfl⟩ (qt_rd (rd_move rfl)) ?_
      refine ga_first 4 #[true, true, true, true, true, false, false, false, false, false] rfl rfl rfl rfl (by kernel_rfl) rfl ⟨[0, 2, 3, 4], by decide, rfl⟩ (qt_rd (by first | exact rd_indexRow1 1 rfl Try.underlying23 ty_3 rfl rfl (by omega) (by omega) | exact rd_indexRow1 2 rfl Try.underlying23 ty_3 rfl rfl (by omega) (by omega) | exact rd_indexRow1 3 rfl Try.underlying23 ty_3 rfl rfl (by omega) (by omega) | exact rd_indexOld1 (by assumption) Try.underlying23 ty_3 rfl rfl (by omega) (by omega) | exact rd_index1 Try.underlying23 ty_3 rfl rfl (by omega) (by omega))) ?_
      refine ga_first 5 #[true, true, true, true, true, true, false, false, false, false] rfl rfl rfl rfl (by kernel_rfl) rfl ⟨[0, 2, 3, 4], by decide, rfl⟩ (qt_rd (rd_load Try.underlying3 rfl rfl (ld_slN hsl (get_nats hil)))) ?_
      refine ga_only 6 #[true, true, true, true, true, true, true, false, false, false] rfl rfl (by kernel_rfl) rfl (.inr ⟨[0, 2, 3, 4], by decide, rfl⟩) (op_buildSlice (sz := 1) rfl rfl (fun _ => bs_23_1_0 _) rfl rfl (fun b43 => ?_))
      refine ga_only 7 #[true, true, true, true, true, true, true, true, false, false] rfl rfl (by kernel_rfl) rfl (.inr ⟨[1, 3, 4, 5], by decide, rfl⟩) (op_appendRow 2 0 Try.underlying23 ty_3 rfl (by decide) rfl rfl rfl rfl rfl (by simp [Value.oneCell']) (by omega) (by omega) (fun _ => (by first | rfl | (simp only [List.set_cons_succ, List.set_cons_zero]; exact rfl))) (fun r44 c44 => ?_))
      refine ga_first 8 #[true, true, true, true, true, true, true, true, true, false] rfl rfl rfl rfl (by kernel_rfl) rfl ⟨[1, 3, 4, 5], by decide, rfl⟩ (qt_rd (rd_fieldAddr rfl (fa_91_0 _))) ?_
      first | refine ga_only 9 #[true, true, true, true, true, true, true, true, true, true] rfl rfl (by kernel_rfl) rfl (.inr ⟨[1, 3, 4, 5], by decide, rfl⟩) (op_store 1 ty_23 rfl rfl rfl rfl rfl (by first | rfl | (simp only [List.set_cons_succ, List.set_cons_zero]; exact rfl)) (by first | rfl | (simp only [List.set_cons_succ, List.set_cons_zero]; exact rfl)) ?_) | refine ga_only 9 #[true, true, true, true, true, true, true, true, true, true] rfl rfl (by kernel_rfl) rfl (.inr ⟨[1, 3, 4, 5], by decide, rfl⟩) (op_store 6 ty_23 rfl rfl rfl rfl rfl (by first | rfl | (simp only [List.set_cons_succ, List.set_cons_zero]; exact rfl)) (by first | rfl | (simp only [List.set_cons_succ, List.set_cons_zero]; exact rfl)) ?_) | refine ga_only 9 #[true, true, true, true, true, true, true, true, true, true] rfl rfl (by kernel_rfl) rfl (.inr ⟨[1, 3, 4, 5], by decide, rfl⟩) (op_store 7 ty_23 rfl rfl rfl rfl rfl (by first | rfl | (simp only [List.set_cons_succ, List.set_cons_zero]; exact rfl)) (by first | rfl | (simp only [List.set_cons_succ, List.set_cons_zero]; exact rfl)) ?_) | refine ga_only 9 #[true, true, true, true, true, true, true, true, true, true] rfl rfl (by kernel_rfl) rfl (.inr ⟨[1, 3, 4, 5], by decide, rfl⟩) (op_storeRow 0 ty_23 rfl rfl rfl rfl (by simp; omega) (by first | rfl | (simp only [List.set_cons_succ, List.set_cons_zero]; exact rfl)) ?_) | refine ga_only 9 #[true, true, true, true, true, true, true, true, true, true] rfl rfl (by kernel_rfl) rfl (.inr ⟨[1, 3, 4, 5], by decide, rfl⟩) (op_storeRow 2 ty_23 rfl rfl rfl rfl (by simp; omega) (by first | rfl | (simp only [List.set_cons_succ, List.set_cons_zero]; exact rfl)) ?_) | refine ga_only 9 #[true, true, true, true, true, true, true, true, true, true] rfl rfl (by kernel_rfl) rfl (.inr ⟨[1, 3, 4, 5], by decide, rfl⟩) (op_storeRow 3 ty_23 rfl rfl rfl rfl (by simp; omega) (by first | rfl | (simp only [List.set_cons_succ, List.set_cons_zero]; exact rfl)) ?_) | refine ga_only 9 #[true, true, true, true, true, true, true, true, true, true] rfl rfl (by kernel_rfl) rfl (.inr ⟨[1, 3, 4, 5], by decide, rfl⟩) (op_storeRow 4 ty_23 rfl rfl rfl rfl (by simp; omega) (by first | rfl | (simp only [List.set_cons_succ, List.set_cons_zero]; exact rfl)) ?_) | refine ga_only 9 #[true, true, true, true, true, true, true, true, true, true] rfl rfl (by kernel_rfl) rfl (.inr ⟨[1, 3, 4, 5], by decide, rfl⟩) (op_storeRow 5 ty_23 rfl rfl rfl rfl (by simp; omega) (by first | rfl | (simp only [List.set_cons_succ, List.set_cons_zero]; exact rfl)) ?_)
      refine ga_end (by kernel_rfl) (.inl (by kernel_rfl)) ?_
      refine gx_then ?_
      refine gc_seq ?_
      refine gc_region ?_
      refine gl_op (op_rd rfl (rd_fieldAddr rfl (fa_91_1 _)) ?_)
      refine gl_op (op_rd rfl (rd_load Try.underlying23 rfl rfl (by first | exact ld_blk 1 rfl rfl | exact ld_blk 6 rfl rfl | exact ld_blk 7 rfl rfl | exact ld_old (by assumption) (by simp) | exact ld_cells (by assumption) (by simp) rfl)) ?_)
      refine gl_op (op_buildSlice (sz := 1) rfl rfl (fun _ => bs_23_1_0 _) rfl rfl (fun b48 => ?_))
      refine gl_op (op_appendRow 4 0 Try.underlying23 ty_3 rfl (by decide) rfl rfl rfl rfl rfl (by simp [Value.oneCell']) (by omega) (by omega) (fun _ => (by first | rfl | (simp only [List.set_cons_succ, List.set_cons_zero]; exact rfl))) (fun r49 c49 => ?_))
      refine gl_op (op_rd rfl (rd_fieldAddr rfl (fa_91_1 _)) ?_)
      first | refine gl_op (op_store 2 ty_23 rfl rfl rfl rfl rfl (by first | rfl | (simp only [List.set_cons_succ, List.set_cons_zero]; exact rfl)) (by first | rfl | (simp only [List.set_cons_succ, List.set_cons_zero]; exact rfl)) ?_) | refine gl_op (op_store 7 ty_23 rfl rfl rfl rfl rfl (by first | rfl | (simp only [List.set_cons_succ, List.set_cons_zero]; exact rfl)) (by first | rfl | (simp only [List.set_cons_succ, List.set_cons_zero]; exact rfl)) ?_) | refine gl_op (op_store 8 ty_23 rfl rfl rfl rfl rfl (by first | rfl | (simp only [List.set_cons_succ, List.set_cons_zero]; exact rfl)) (by first | rfl | (simp only [List.set_cons_succ, List.set_cons_zero]; exact rfl)) ?_) | refine gl_op (op_storeRow 0 ty_23 rfl rfl rfl rfl (by simp; omega) (by first | rfl | (simp only [List.set_cons_succ, List.set_cons_zero]; exact rfl)) ?_) | refine gl_op (op_storeRow 1 ty_23 rfl rfl rfl rfl (by simp; omega) (by first | rfl | (simp only [List.set_cons_succ, List.set_cons_zero]; exact rfl)) ?_) | refine gl_op (op_storeRow 3 ty_23 rfl rfl rfl rfl (by simp; omega) (by first | rfl | (simp only [List.set_cons_succ, List.set_cons_zero]; exact rfl)) ?_) | refine gl_op (op_storeRow 4 ty_23 rfl rfl rfl rfl (by simp; omega) (by first | rfl | (simp only [List.set_cons_succ, List.set_cons_zero]; exact rfl)) ?_) | refine gl_op (op_storeRow 5 ty_23 rfl rfl rfl rfl (by simp; omega) (by first | rfl | (simp only [List.set_cons_succ, List.set_cons_zero]; exact rfl)) ?_) | refine gl_op (op_storeRow 6 ty_23 rfl rfl rfl rfl (by simp; omega) (by first | rfl | (simp only [List.set_cons_succ, List.set_cons_zero]; exact rfl)) ?_)
      refine gl_nil ?_
      refine gx_then ?_
      refine gc_seq ?_
      refine gc_region ?_
      refine gl_op (op_rd rfl (rd_fieldAddr rfl (fa_91_2 _)) ?_)
      refine gl_op (op_rd rfl (rd_load Try.underlying23 rfl rfl (by first | exact ld_blk 2 rfl rfl | exact ld_blk 7 rfl rfl | exact ld_blk 8 rfl rfl | exact ld_old (by assumption) (by simp) | exact ld_cells (by assumption) (by simp) rfl)) ?_)
      refine gl_op (op_buildSlice (sz := 1) rfl rfl (fun _ => bs_23_1_0 _) rfl rfl (fun b53 => ?_))
      refine gl_op (op_appendRow 6 0 Try.underlying23 ty_3 rfl (by decide) rfl rfl rfl rfl rfl (by simp [Value.oneCell']) (by omega) (by omega) (fun _ => (by first | rfl | (simp only [List.set_cons_succ, List.set_cons_zero]; exact rfl))) (fun r54 c54 => ?_))
      refine gl_op (op_rd rfl (rd_fieldAddr rfl (fa_91_2 _)) ?_)
      first | refine gl_op (op_store 3 ty_23 rfl rfl rfl rfl rfl (by first | rfl | (simp only [List.set_cons_succ, List.set_cons_zero]; exact rfl)) (by first | rfl | (simp only [List.set_cons_succ, List.set_cons_zero]; exact rfl)) ?_) | refine gl_op (op_store 8 ty_23 rfl rfl rfl rfl rfl (by first | rfl | (simp only [List.set_cons_succ, List.set_cons_zero]; exact rfl)) (by first | rfl | (simp only [List.set_cons_succ, List.set_cons_zero]; exact rfl)) ?_) | refine gl_op (op_store 9 ty_23 rfl rfl rfl rfl rfl (by first | rfl | (simp only [List.set_cons_succ, List.set_cons_zero]; exact rfl)) (by first | rfl | (simp only [List.set_cons_succ, List.set_cons_zero]; exact rfl)) ?_) | refine gl_op (op_storeRow 0 ty_23 rfl rfl rfl rfl (by simp; omega) (by first | rfl | (simp only [List.set_cons_succ, List.set_cons_zero]; exact rfl)) ?_) | refine gl_op (op_storeRow 1 ty_23 rfl rfl rfl rfl (by simp; omega) (by first | rfl | (simp only [List.set_cons_succ, List.set_cons_zero]; exact rfl)) ?_) | refine gl_op (op_storeRow 2 ty_23 rfl rfl rfl rfl (by simp; omega) (by first | rfl | (simp only [List.set_cons_succ, List.set_cons_zero]; exact rfl)) ?_) | refine gl_op (op_storeRow 4 ty_23 rfl rfl rfl rfl (by simp; omega) (by first | rfl | (simp only [List.set_cons_succ, List.set_cons_zero]; exact rfl)) ?_) | refine gl_op (op_storeRow 5 ty_23 rfl rfl rfl rfl (by simp; omega) (by first | rfl | (simp only [List.set_cons_succ, List.set_cons_zero]; exact rfl)) ?_) | refine gl_op (op_storeRow 6 ty_23 rfl rfl rfl rfl (by simp; omega) (by first | rfl | (simp only [List.set_cons_succ, List.set_cons_zero]; exact rfl)) ?_) | refine gl_op (op_storeRow 7 ty_23 rfl rfl rfl rfl (by simp; omega) (by first | rfl | (simp only [List.set_cons_succ, List.set_cons_zero]; exact rfl)) ?_)
      refine gl_nil ?_
      refine gx_then ?_
      refine gc_drawP [0, 1, 2, 3, 4, 5, 6, 7, 8, 9] false 10 rfl ?_
      refine ga_first 0 #[true, false, false, false, false, false, false, false, false, false, false] rfl rfl rfl rfl (by kernel_rfl) rfl ⟨[0, 1, 2, 3, 4, 5, 6, 7, 8, 9], by decide, rfl⟩ (qt_rd (rd_fieldAddr rfl (fa_91_3 _))) ?_
      refine ga_first 1 #[true, true, false, false, false, false, false, false, false, false, false] rfl rfl rfl rfl (by kernel_rfl) rfl ⟨[0, 1, 2, 3, 4, 5, 6, 7, 8, 9], by decide, rfl⟩ (qt_rd (rd_load Try.underlying23 rfl rfl (by first | exact ld_blk 3 rfl rfl | exact ld_blk 8 rfl rfl | exact ld_blk 9 rfl rfl | exact ld_old (by assumption) (by simp) | exact ld_cells (by assumption) (by simp) rfl))) ?_
      refine ga_first 2 #[true, true, true, false, false, false, false, false, false, false, false] rfl rfl rfl rfl (by kernel_rfl) rfl ⟨[0, 1, 2, 3, 4, 5, 6, 7, 8, 9], by decide, rfl⟩ (qt_rd (rd_move rfl)) ?_
      refine ga_first 3 #[true, true, true, true, false, false, false, false, false, false, false] rfl rfl rfl rfl (by kernel_rfl) rfl ⟨[0, 1, 2, 3, 4, 5, 6, 7, 8, 9], by decide, rfl⟩ (qt_rd (rd_move rfl)) ?_
      refine ga_first 4 #[true, true, true, true, true, false, false, false, false, false, false] rfl rfl rfl rfl (by kernel_rfl) rfl ⟨[0, 1, 2, 3, 4, 5, 6, 7, 8, 9], by decide, rfl⟩ (qt_rd (by first | exact rd_indexRow1 0 rfl Try.underlying23 ty_3 rfl rfl (by omega) (by omega) | exact rd_indexRow1 1 rfl Try.underlying23 ty_3 rfl rfl (by omega) (by omega) | exact rd_indexRow1 2 rfl Try.underlying23 ty_3 rfl rfl (by omega) (by omega) | exact rd_indexRow1 4 rfl Try.underlying23 ty_3 rfl rfl (by omega) (by omega) | exact rd_indexRow1 5 rfl Try.underlying23 ty_3 rfl rfl (by omega) (by omega) | exact rd_indexRow1 6 rfl Try.underlying23 ty_3 rfl rfl (by omega) (by omega) | exact rd_indexRow1 7 rfl Try.underlying23 ty_3 rfl rfl (by omega) (by omega) | exact rd_indexOld1 (by assumption) Try.underlying23 ty_3 rfl rfl (by omega) (by omega) | exact rd_index1 Try.underlying23 ty_3 rfl rfl (by omega) (by omega))) ?_
      refine ga_first 5 #[true, true, true, true, true, true, false, false, false, false, false] rfl rfl rfl rfl (by kernel_rfl) rfl ⟨[0, 1, 2, 3, 4, 5, 6, 7, 8, 9], by decide, rfl⟩ (qt_rd (rd_load Try.underlying3 rfl rfl (ld_slN hsl (get_nats hil)))) ?_
      refine ga_first 6 #[true, true, true, true, true, true, true, false, false, false, false] rfl rfl rfl rfl (by kernel_rfl) rfl ⟨[0, 1, 2, 3, 4, 5, 6, 7, 8, 9], by decide, rfl⟩ (qt_rd (rd_fieldAddr rfl (fa_91_0 _))) ?_
      refine ga_first 7 #[true, true, true, true, true, true, true, true, false, false, false] rfl rfl rfl rfl (by kernel_rfl) rfl ⟨[0, 1, 2, 3, 4, 5, 6, 7, 8, 9], by decide, rfl⟩ (qt_rd (rd_load Try.underlying23 rfl rfl (by first | exact ld_blk 3 rfl rfl | exact ld_blk 8 rfl rfl | exact ld_blk 9 rfl rfl | exact ld_old (by assumption) (by simp) | exact ld_cells (by assumption) (by simp) rfl))) ?_
      refine ga_first 8 #[true, true, true, true, true, true, true, true, true, false, false] rfl rfl rfl rfl (by kernel_rfl) rfl ⟨[0, 1, 2, 3, 4, 5, 6, 7, 8, 9], by decide, rfl⟩ (qt_rd (rd_lenSlice Try.underlying23 rfl)) ?_
      refine ga_first 9 #[true, true, true, true, true, true, true, true, true, true, false] rfl rfl rfl rfl (by kernel_rfl) rfl ⟨[0, 1, 2, 3, 4, 5, 6, 7, 8, 9], by decide, rfl⟩ (qt_rd (by first | exact rd_indexRow1 0 rfl Try.underlying23 ty_3 rfl rfl (by omega) (by omega) | exact rd_indexRow1 1 rfl Try.underlying23 ty_3 rfl rfl (by omega) (by omega) | exact rd_indexRow1 2 rfl Try.underlying23 ty_3 rfl rfl (by omega) (by omega) | exact rd_indexRow1 4 rfl Try.underlying23 ty_3 rfl rfl (by omega) (by omega) | exact rd_indexRow1 5 rfl Try.underlying23 ty_3 rfl rfl (by omega) (by omega) | exact rd_indexRow1 6 rfl Try.underlying23 ty_3 rfl rfl (by omega) (by omega) | exact rd_indexRow1 7 rfl Try.underlying23 ty_3 rfl rfl (by omega) (by omega) | exact rd_indexOld1 (by assumption) Try.underlying23 ty_3 rfl rfl (by omega) (by omega) | exact rd_index1 Try.underlying23 ty_3 rfl rfl (by omega) (by omega))) ?_
      first | refine ga_only 10 #[true, true, true, true, true, true, true, true, true, true, true] rfl rfl (by kernel_rfl) rfl (.inr ⟨[0, 1, 2, 3, 4, 5, 6, 7, 8, 9], by decide, rfl⟩) (op_store 3 ty_3 rfl rfl rfl rfl rfl (by first | rfl | (simp only [List.set_cons_succ, List.set_cons_zero]; exact rfl)) (by first | rfl | (simp only [List.set_cons_succ, List.set_cons_zero]; exact rfl)) ?_) | refine ga_only 10 #[true, true, true, true, true, true, true, true, true, true, true] rfl rfl (by kernel_rfl) rfl (.inr ⟨[0, 1, 2, 3, 4, 5, 6, 7, 8, 9], by decide, rfl⟩) (op_store 8 ty_3 rfl rfl rfl rfl rfl (by first | rfl | (simp only [List.set_cons_succ, List.set_cons_zero]; exact rfl)) (by first | rfl | (simp only [List.set_cons_succ, List.set_cons_zero]; exact rfl)) ?_) | refine ga_only 10 #[true, true, true, true, true, true, true, true, true, true, true] rfl rfl (by kernel_rfl) rfl (.inr ⟨[0, 1, 2, 3, 4, 5, 6, 7, 8, 9], by decide, rfl⟩) (op_store 9 ty_3 rfl rfl rfl rfl rfl (by first | rfl | (simp only [List.set_cons_succ, List.set_cons_zero]; exact rfl)) (by first | rfl | (simp only [List.set_cons_succ, List.set_cons_zero]; exact rfl)) ?_) | refine ga_only 10 #[true, true, true, true, true, true, true, true, true, true, true] rfl rfl (by kernel_rfl) rfl (.inr ⟨[0, 1, 2, 3, 4, 5, 6, 7, 8, 9], by decide, rfl⟩) (op_storeRow 0 ty_3 rfl rfl rfl rfl (by rw [List.length_map, place_len]; omega) (by first | rfl | (simp only [List.set_cons_succ, List.set_cons_zero]; exact rfl)) ?_) | refine ga_only 10 #[true, true, true, true, true, true, true, true, true, true, true] rfl rfl (by kernel_rfl) rfl (.inr ⟨[0, 1, 2, 3, 4, 5, 6, 7, 8, 9], by decide, rfl⟩) (op_storeRow 1 ty_3 rfl rfl rfl rfl (by rw [List.length_map, place_len]; omega) (by first | rfl | (simp only [List.set_cons_succ, List.set_cons_zero]; exact rfl)) ?_) | refine ga_only 10 #[true, true, true, true, true, true, true, true, true, true, true] rfl rfl (by kernel_rfl) rfl (.inr ⟨[0, 1, 2, 3, 4, 5, 6, 7, 8, 9], by decide, rfl⟩) (op_storeRow 2 ty_3 rfl rfl rfl rfl (by rw [List.length_map, place_len]; omega) (by first | rfl | (simp only [List.set_cons_succ, List.set_cons_zero]; exact rfl)) ?_) | refine ga_only 10 #[true, true, true, true, true, true, true, true, true, true, true] rfl rfl (by kernel_rfl) rfl (.inr ⟨[0, 1, 2, 3, 4, 5, 6, 7, 8, 9], by decide, rfl⟩) (op_storeRow 4 ty_3 rfl rfl rfl rfl (by rw [List.length_map, place_len]; omega) (by first | rfl | (simp only [List.set_cons_succ, List.set_cons_zero]; exact rfl)) ?_) | refine ga_only 10 #[true, true, true, true, true, true, true, true, true, true, true] rfl rfl (by kernel_rfl) rfl (.inr ⟨[0, 1, 2, 3, 4, 5, 6, 7, 8, 9], by decide, rfl⟩) (op_storeRow 5 ty_3 rfl rfl rfl rfl (by rw [List.length_map, place_len]; omega) (by first | rfl | (simp only [List.set_cons_succ, List.set_cons_zero]; exact rfl)) ?_) | refine ga_only 10 #[true, true, true, true, true, true, true, true, true, true, true] rfl rfl (by kernel_rfl) rfl (.inr ⟨[0, 1, 2, 3, 4, 5, 6, 7, 8, 9], by decide, rfl⟩) (op_storeRow 6 ty_3 rfl rfl rfl rfl (by rw [List.length_map, place_len]; omega) (by first | rfl | (simp only [List.set_cons_succ, List.set_cons_zero]; exact rfl)) ?_) | refine ga_only 10 #[true, true, true, true, true, true, true, true, true, true, true] rfl rfl (by kernel_rfl) rfl (.inr ⟨[0, 1, 2, 3, 4, 5, 6, 7, 8, 9], by decide, rfl⟩) (op_storeRow 7 ty_3 rfl rfl rfl rfl (by rw [List.length_map, place_len]; omega) (by first | rfl | (simp only [List.set_cons_succ, List.set_cons_zero]; exact rfl)) ?_)
      refine ga_end (by kernel_rfl) (.inl (by kernel_rfl)) ?_
      refine gx_block ?_
      refine gx_then ?_
      simp only [Int.toNat_natCast]
      rw [map_set_succ, place_add (f := -1) (g := 0) hh hsi2, sV_add (f := -1) (g := 0) hh, fV_add (f := -1) (g := 0) hh, gV_add0 hh, addN_len1 (f := -1) (g := 0) hh]
      refine gc_region ?_
      refine gl_op (op_rd rfl (rd_move rfl) ?_)
      refine gl_op (op_rd rfl (by first | exact rd_addN (b := 1) rfl rfl (by omega) | exact rd_add rfl rfl (by omega) (by omega)) ?_)
      refine gl_op (op_rd rfl (rd_assign rfl) ?_)
      refine gl_nil ?_
      refine gx_then ?_
      exact gx_cut ((i + 1, ⟨addN ns (begin.getD i 0) (-1) 0, r44, c44, r49, c49, r54, c54⟩)) ⟨⟨by simp only; omega, by simp only; rw [hns, ← begsP_succ hil], addN_all hst hsi, by simp only; have := (addN_len ns (begin.getD i 0) (-1) 0).1; omega⟩, by simp only; omega⟩ ⟨rfl, rfl, rfl, rfl, rfl, rfl, rfl, trivial⟩ ⟨[3, 4, 5, 6, 7, 8, 9], by decide, rfl⟩
    · skip
      have hh : hasS ns (begin.getD i 0) = true := by
        cases h : hasS ns (begin.getD i 0) with
        | true => rfl
        | false => exact absurd (by rw [pN_zero.2 h]; rfl) h36
      refine ga_end (by kernel_rfl) (.inr ⟨[0, 1, 2, 3, 4, 5, 6], by decide, rfl⟩) ?_
      refine gx_then ?_
      refine gc_cond_f rfl ?_
      refine gc_skip ?_
      refine gx_block ?_
      refine gx_then ?_
      refine gc_region ?_
      refine gl_op (op_rd rfl (rd_move rfl) ?_)
      refine gl_op (op_rd rfl (by first | exact rd_addN (b := 1) rfl rfl (by omega) | exact rd_add rfl rfl (by omega) (by omega)) ?_)
      refine gl_op (op_rd rfl (rd_assign rfl) ?_)
      refine gl_nil ?_
      refine gx_then ?_
      exact gx_cut ((i + 1, ⟨ns, rs, cs, rf, cf, rg, cg⟩)) ⟨⟨by simp only; omega, by simp only; rw [begsP_succ hil, ← hns, addN_t hh], hst, by simp only; omega⟩, by simp only; omega⟩ ⟨rfl, rfl, rfl, rfl, rfl, rfl, rfl, trivial⟩ ⟨[0, 1, 2, 3, 4, 5, 6], by decide, rfl⟩
  · skip
    refine gl_nil ?_
    refine gx_then ?_
    refine gc_cond_f rfl ?_
    refine gc_exit ?_
    refine gx_then_exit ?_
    refine gx_then_exit ?_
    refine gx_block_exit ?_
    refine gx_then ?_
    refine gc_seq ?_
    refine gc_seq ?_
    refine gc_region ?_
    refine gl_op (op_rd rfl (rd_assign rfl) ?_)
    refine gl_nil ?_
    refine gx_then ?_
    refine gc_block ?_
    refine gc_loopF (ι := Nat × Rch) [(2, _), (3, _), (4, _), (8, _), (9, _)] [_, _] (fun j => j.1 ≤ 1000 ∧ rreachGo c inn (1002 - j.1) j.1 j.2.ns = rreachP c inn begin ∧ (∀ x ∈ j.2.ns, x.state < 2 ^ c.gates.length) ∧ j.2.ns.length ≤ 50000) (fun j Fr0 => ((11, natV j.1) :: Fr0)) (fun j Fr0 => (.blk b9 [.slice (rowA j.2.rs) j.2.ns.length j.2.cs, .slice (rowA j.2.rf) j.2.ns.length j.2.cf, .slice (rowA j.2.rg) j.2.ns.length j.2.cg, .slice (rowA (some b20)) (1 <<< c.gates.length) (1 <<< c.gates.length)] 91 :: .row 3 1 j.2.rs j.2.ns.length j.2.cs (j.2.ns.map sV) :: .row 3 1 j.2.rf j.2.ns.length j.2.cf (j.2.ns.map fV) :: .row 3 1 j.2.rg j.2.ns.length j.2.cg (j.2.ns.map gV) :: .row 3 1 (some b20) (1 <<< c.gates.length) (1 <<< c.gates.length) ((placeL j.2.ns (1 <<< c.gates.length)).map natV) :: Fr0)) (fun j => 1001 - j.1) (0, ⟨ns, rs, cs, rf, cf, rg, cg⟩) (⟨Nat.zero_le _, by rw [hns, show begin.take i = begin by rw [show i = begin.length by omega]; exact List.take_length]; rfl, hst, by simp only; omega⟩) ⟨rfl, rfl, rfl, rfl, rfl, rfl, trivial⟩ ⟨[0, 1, 2, 3, 4, 5, 6], by decide, rfl⟩ ?_
    rintro ⟨i, ns, rs, cs, rf, cf, rg, cg⟩ ⟨hi, hgo, hst, hln⟩
    simp only at hi hgo hst hln ⊢
    refine gc_seq ?_
    refine gc_seq ?_
    refine gc_region ?_
    refine gl_op (op_rd rfl (rd_move rfl) ?_)
    refine gl_op (op_rd rfl (rd_fieldAddr rfl (fa_91_0 _)) ?_)
    refine gl_op (op_rd rfl (rd_load Try.underlying23 rfl rfl (by first | exact ld_blk 0 rfl rfl | exact ld_blk 5 rfl rfl | exact ld_blk 6 rfl rfl | exact ld_old (by assumption) (by simp) | exact ld_cells (by assumption) (by simp) rfl)) ?_)
    refine gl_op (op_rd rfl (rd_lenSlice Try.underlying23 rfl) ?_)
    refine gl_op (op_rd rfl (rd_lss rfl rfl) (gk_dec (fun hil => ?_) (fun hil => ?_)))
    · skip
      refine gl_op (op_rd rfl (rd_move rfl) ?_)
      refine gl_yes rfl rfl (op_rd rfl (rd_fieldAddr rfl (fa_91_0 _)) ?_)
      refine gl_yes rfl rfl (op_rd rfl (rd_load Try.underlying23 rfl rfl (by first | exact ld_blk 0 rfl rfl | exact ld_blk 5 rfl rfl | exact ld_blk 6 rfl rfl | exact ld_old (by assumption) (by simp) | exact ld_cells (by assumption) (by simp) rfl)) ?_)
      refine gl_yes rfl rfl (op_rd rfl (rd_lenSlice Try.underlying23 rfl) ?_)
      refine gl_yes rfl rfl (op_rd rfl (rd_move rfl) ?_)
      refine gl_yes rfl rfl (op_rd rfl (rd_leq rfl rfl) (gk_dec (fun hle => ?_) (fun hle => ?_)))
      · skip
        obtain ⟨x, hx⟩ : ∃ y, ns[i]? = some y := ⟨ns[i]'(by omega), List.getElem?_eq_getElem (by omega)⟩
        have hxs : x.state < 2 ^ c.gates.length := hst x (List.mem_of_getElem? hx)
        have hxs2 := st_lt hgd hxs
        refine gl_op (op_rd rfl (rd_pick_t rfl rfl) ?_)
        refine gl_nil ?_
        refine gx_then ?_
        refine gc_cond_t rfl ?_
        refine gc_skip ?_
        refine gx_then ?_
        refine gc_seq ?_
        refine gc_block ?_
        refine gc_seq ?_
        refine gc_drawP [0, 1, 2, 3, 4, 5, 6] true 8 rfl ?_
        refine ga_first 0 #[true, false, false, false, false, false, false, false, false] rfl rfl rfl rfl (by kernel_rfl) rfl ⟨[0, 1, 2, 3, 4, 5, 6], by decide, rfl⟩ (qt_rd (rd_loadAgg Try.underlying25 rfl ty_25 rfl (by first | exact cs_blk 0 (off := 0) (k := 3) rfl rfl | exact cs_blk 5 (off := 0) (k := 3) rfl rfl | exact cs_blk 6 (off := 0) (k := 3) rfl rfl | exact cs_old (by assumption) (by simp)) rfl)) ?_
        refine ga_first 1 #[true, true, false, false, false, false, false, false, false] rfl rfl rfl rfl (by kernel_rfl) rfl ⟨[0, 1, 2, 3, 4, 5, 6], by decide, rfl⟩ (qt_rd (rd_fieldAddr rfl (fa_91_0 _))) ?_
        refine ga_first 2 #[true, true, true, false, false, false, false, false, false] rfl rfl rfl rfl (by kernel_rfl) rfl ⟨[0, 1, 2, 3, 4, 5, 6], by decide, rfl⟩ (qt_rd (rd_load Try.underlying23 rfl rfl (by first | exact ld_blk 0 rfl rfl | exact ld_blk 5 rfl rfl | exact ld_blk 6 rfl rfl | exact ld_old (by assumption) (by simp) | exact ld_cells (by assumption) (by simp) rfl))) ?_
        refine ga_first 3 #[true, true, true, true, false, false, false, false, false] rfl rfl rfl rfl (by kernel_rfl) rfl ⟨[0, 1, 2, 3, 4, 5, 6], by decide, rfl⟩ (qt_rd (rd_move rfl)) ?_
        refine ga_first 4 #[true, true, true, true, true, false, false, false, false] rfl rfl rfl rfl (by kernel_rfl) rfl ⟨[0, 1, 2, 3, 4, 5, 6], by decide, rfl⟩ (qt_rd (rd_indexRow1 1 rfl Try.underlying23 ty_3 rfl rfl (by omega) (by omega))) ?_
        refine ga_first 5 #[true, true, true, true, true, true, false, false, false] rfl rfl rfl rfl (by kernel_rfl) rfl ⟨[0, 1, 2, 3, 4, 5, 6], by decide, rfl⟩ (qt_rd (rd_load Try.underlying3 rfl rfl (ld_rowN 1 rfl (get_sV hx)))) ?_
        refine ga_first 6 #[true, true, true, true, true, true, true, false, false] rfl rfl rfl rfl (by kernel_rfl) rfl ⟨[0, 1, 2, 3, 4, 5, 6], by decide, rfl⟩ (qt_rd (rd_move rfl)) ?_
        refine ga_only 7 #[true, true, true, true, true, true, true, true, false] rfl rfl (by kernel_rfl) rfl (.inr ⟨[0, 1, 2, 3, 4, 5, 6], by decide, rfl⟩) (op_call rfl (vf := []) (vc := []) rfl rfl Try.call49 (fun w ho => rnext_ok c x.state inn w (hc.at ho) hgd hxs hin) ?_)
        rintro _ _ ⟨rk, ck, rfl, rfl⟩
        have hkl := nextL_len c x.state inn
        obtain ⟨ks, hks⟩ : ∃ ks, nextL c x.state inn = ks := ⟨_, rfl⟩
        rw [hks] at hkl ⊢
        refine ga_first 8 #[true, true, true, true, true, true, true, true, true] rfl rfl rfl rfl (by kernel_rfl) rfl ⟨[1, 2, 3, 4, 5, 6, 7], by decide, rfl⟩ (qt_rd (rd_assign rfl)) ?_
        refine ga_end (by kernel_rfl) (.inr ⟨[1, 2, 3, 4, 5, 6, 7], by decide, rfl⟩) ?_
        refine gx_then ?_
        refine gc_seq ?_
        refine gc_region ?_
        refine gl_op (op_rd rfl (rd_assign rfl) ?_)
        refine gl_nil ?_
        refine gx_then ?_
        refine gc_block ?_
        refine gc_loopF (ι := Nat × Rch) [(2, _), (3, _), (4, _), (8, _), (9, _), (11, _), (12, _)] [_, _, _] (fun j => j.1 ≤ ks.length ∧ j.2.ns = expandP i x (ks.take j.1) ns ∧ (∀ x ∈ j.2.ns, x.state < 2 ^ c.gates.length) ∧ j.2.ns.length ≤ ns.length + j.1 ∧ j.2.ns[i]? = some x) (fun j Fr0 => ((13, natV j.1) :: Fr0)) (fun j Fr0 => (.blk b9 [.slice (rowA j.2.rs) j.2.ns.length j.2.cs, .slice (rowA j.2.rf) j.2.ns.length j.2.cf, .slice (rowA j.2.rg) j.2.ns.length j.2.cg, .slice (rowA (some b20)) (1 <<< c.gates.length) (1 <<< c.gates.length)] 91 :: .row 3 1 j.2.rs j.2.ns.length j.2.cs (j.2.ns.map sV) :: .row 3 1 j.2.rf j.2.ns.length j.2.cf (j.2.ns.map fV) :: .row 3 1 j.2.rg j.2.ns.length j.2.cg (j.2.ns.map gV) :: .row 3 1 (some b20) (1 <<< c.gates.length) (1 <<< c.gates.length) ((placeL j.2.ns (1 <<< c.gates.length)).map natV) :: Fr0)) (fun j => ks.length - j.1) (0, ⟨ns, rs, cs, rf, cf, rg, cg⟩) (⟨Nat.zero_le _, rfl, hst, by simp only; omega, hx⟩) ⟨rfl, rfl, rfl, rfl, rfl, rfl, rfl, rfl, trivial⟩ ⟨[1, 2, 3, 4, 5, 0, 6, 7], by decide, rfl⟩ ?_
        rintro ⟨jk, ms, rs, cs, rf, cf, rg, cg⟩ ⟨hjk0, hme, hst2, hml, hmx⟩
        simp only at hjk0 hme hst2 hml hmx ⊢
        have hmi : i < ms.length := (List.getElem?_eq_some_iff.1 hmx).1
        refine gc_seq ?_
        refine gc_seq ?_
        refine gc_region ?_
        refine gl_op (op_rd rfl (rd_move rfl) ?_)
        refine gl_op (op_rd rfl (rd_move rfl) ?_)
        refine gl_op (op_rd rfl (rd_lenSlice Try.underlying23 rfl) ?_)
        refine gl_op (op_rd rfl (rd_lss rfl rfl) (gk_dec (fun hlt2 => ?_) (fun hlt2 => ?_)))
        · skip
          have hjl : jk < ks.length := by omega
          have hkm : ks.getD jk 0 ∈ nextL c x.state inn := by rw [hks]; exact mem_getD (d := 0) hjl
          have hkk := nextL_lt hkm
          have hfl := flip_lt (k := ks.getD jk 0) hxs hkk
          have hfl2 : flip x.state (ks.getD jk 0) < 1 <<< c.gates.length := by rw [one_shl]; exact hfl
          refine gl_nil ?_
          refine gx_then ?_
          refine gc_cond_t rfl ?_
          refine gc_skip ?_
          refine gx_then ?_
          refine gc_seq ?_
          refine gc_block ?_
          refine gc_seq ?_
          refine gc_drawP [0, 1, 2, 3, 4, 5, 6, 7] true 10 rfl ?_
          refine ga_first 0 #[true, false, false, false, false, false, false, false, false, false, false] rfl rfl rfl rfl (by kernel_rfl) rfl ⟨[0, 1, 2, 3, 4, 5, 6, 7], by decide, rfl⟩ (qt_rd (rd_fieldAddr rfl (fa_91_0 _))) ?_
          refine ga_first 1 #[true, true, false, false, false, false, false, false, false, false, false] rfl rfl rfl rfl (by kernel_rfl) rfl ⟨[0, 1, 2, 3, 4, 5, 6, 7], by decide, rfl⟩ (qt_rd (rd_load Try.underlying23 rfl rfl (by first | exact ld_blk 0 rfl rfl | exact ld_blk 6 rfl rfl | exact ld_blk 7 rfl rfl | exact ld_old (by assumption) (by simp) | exact ld_cells (by assumption) (by simp) rfl))) ?_
          refine ga_first 2 #[true, true, true, false, false, false, false, false, false, false, false] rfl rfl rfl rfl (by kernel_rfl) rfl ⟨[0, 1, 2, 3, 4, 5, 6, 7], by decide, rfl⟩ (qt_rd (rd_move rfl)) ?_
          refine ga_first 3 #[true, true, true, true, false, false, false, false, false, false, false] rfl rfl rfl rfl (by kernel_rfl) rfl ⟨[0, 1, 2, 3, 4, 5, 6, 7], by decide, rfl⟩ (qt_rd (rd_indexRow1 1 rfl Try.underlying23 ty_3 rfl rfl (by omega) (by omega))) ?_
          refine ga_first 4 #[true, true, true, true, true, false, false, false, false, false, false] rfl rfl rfl rfl (by kernel_rfl) rfl ⟨[0, 1, 2, 3, 4, 5, 6, 7], by decide, rfl⟩ (qt_rd (rd_load Try.underlying3 rfl rfl (ld_rowN 1 rfl (get_sV hmx)))) ?_
          refine ga_first 5 #[true, true, true, true, true, true, false, false, false, false, false] rfl rfl rfl rfl (by kernel_rfl) rfl ⟨[0, 1, 2, 3, 4, 5, 6, 7], by decide, rfl⟩ (qt_rd (rd_move rfl)) ?_
          refine ga_first 6 #[true, true, true, true, true, true, true, false, false, false, false] rfl rfl rfl rfl (by kernel_rfl) rfl ⟨[0, 1, 2, 3, 4, 5, 6, 7], by decide, rfl⟩ (qt_rd (rd_move rfl)) ?_
          refine ga_first 7 #[true, true, true, true, true, true, true, true, false, false, false] rfl rfl rfl rfl (by kernel_rfl) rfl ⟨[0, 1, 2, 3, 4, 5, 6, 7], by decide, rfl⟩ (qt_rd (rd_indexRow1 5 rfl Try.underlying23 ty_3 rfl rfl (by omega) (by omega))) ?_
          refine ga_first 8 #[true, true, true, true, true, true, true, true, true, false, false] rfl rfl rfl rfl (by kernel_rfl) rfl ⟨[0, 1, 2, 3, 4, 5, 6, 7], by decide, rfl⟩ (qt_rd (rd_load Try.underlying3 rfl rfl (ld_rowN 5 rfl (get_nats hjl)))) ?_
          refine ga_first 9 #[true, true, true, true, true, true, true, true, true, true, false] rfl rfl rfl rfl (by kernel_rfl) rfl ⟨[0, 1, 2, 3, 4, 5, 6, 7], by decide, rfl⟩ (qt_call (vf := []) (vc := []) rfl rfl Try.call66 (fun w ho => rswitched_ok x.state _ w hxs2 (by omega)) (by rintro _ _ ⟨h, _⟩; exact h)) ?_
          refine ga_first 10 #[true, true, true, true, true, true, true, true, true, true, true] rfl rfl rfl rfl (by kernel_rfl) rfl ⟨[0, 1, 2, 3, 4, 5, 6, 7], by decide, rfl⟩ (qt_rd (rd_assign rfl)) ?_
          refine ga_end (by kernel_rfl) (.inr ⟨[0, 1, 2, 3, 4, 5, 6, 7], by decide, rfl⟩) ?_
          refine gx_then ?_
          refine gc_seq ?_
          refine gc_region ?_
          refine gl_op (op_rd rfl (rd_fieldAddr rfl (fa_91_3 _)) ?_)
          refine gl_op (op_rd rfl (rd_load Try.underlying23 rfl rfl (by first | exact ld_blk 0 rfl rfl | exact ld_blk 6 rfl rfl | exact ld_blk 7 rfl rfl | exact ld_old (by assumption) (by simp) | exact ld_cells (by assumption) (by simp) rfl)) ?_)
          refine gl_op (op_rd rfl (rd_move rfl) ?_)
          refine gl_op (op_rd rfl (rd_indexRow1 4 rfl Try.underlying23 ty_3 rfl rfl (by omega) (by omega)) ?_)
          refine gl_op (op_rd rfl (rd_load Try.underlying3 rfl rfl (ld_rowN 4 rfl (get_nats (by rw [place_len]; omega)))) ?_)
          rw [place_get hfl2]
          refine gl_op (op_rd rfl (rd_eql rfl rfl) (gk_dec (fun h109 => ?_) (fun h109 => ?_)))
          · skip
            have hh : hasS ms (flip x.state (ks.getD jk 0)) = false := pN_zero.1 (by omega)
            refine gl_nil ?_
            refine gx_then ?_
            refine gc_cond_t rfl ?_
            refine gc_seq ?_
            refine gc_region ?_
            refine gl_op (op_rd rfl (rd_fieldAddr rfl (fa_91_0 _)) ?_)
            refine gl_op (op_rd rfl (rd_load Try.underlying23 rfl rfl (by first | exact ld_blk 0 rfl rfl | exact ld_blk 6 rfl rfl | exact ld_blk 7 rfl rfl | exact ld_old (by assumption) (by simp) | exact ld_cells (by assumption) (by simp) rfl)) ?_)
            refine gl_op (op_rd rfl (rd_move rfl) ?_)
            refine gl_op (op_buildSlice (sz := 1) rfl rfl (fun _ => bs_23_1_0 _) rfl rfl (fun b113 => ?_))
            refine gl_op (op_appendRow 2 0 Try.underlying23 ty_3 rfl (by decide) rfl rfl rfl rfl rfl (by simp [Value.oneCell']) (by omega) (by omega) (fun _ => (by first | rfl | (simp only [List.set_cons_succ, List.set_cons_zero]; exact rfl))) (fun r114 c114 => ?_))
            refine gl_op (op_rd rfl (rd_fieldAddr rfl (fa_91_0 _)) ?_)
            first | refine gl_op (op_store 1 ty_23 rfl rfl rfl rfl rfl (by first | rfl | (simp only [List.set_cons_succ, List.set_cons_zero]; exact rfl)) (by first | rfl | (simp only [List.set_cons_succ, List.set_cons_zero]; exact rfl)) ?_) | refine gl_op (op_store 7 ty_23 rfl rfl rfl rfl rfl (by first | rfl | (simp only [List.set_cons_succ, List.set_cons_zero]; exact rfl)) (by first | rfl | (simp only [List.set_cons_succ, List.set_cons_zero]; exact rfl)) ?_) | refine gl_op (op_store 8 ty_23 rfl rfl rfl rfl rfl (by first | rfl | (simp only [List.set_cons_succ, List.set_cons_zero]; exact rfl)) (by first | rfl | (simp only [List.set_cons_succ, List.set_cons_zero]; exact rfl)) ?_) | refine gl_op (op_storeRow 0 ty_23 rfl rfl rfl rfl (by simp; omega) (by first | rfl | (simp only [List.set_cons_succ, List.set_cons_zero]; exact rfl)) ?_) | refine gl_op (op_storeRow 2 ty_23 rfl rfl rfl rfl (by simp; omega) (by first | rfl | (simp only [List.set_cons_succ, List.set_cons_zero]; exact rfl)) ?_) | refine gl_op (op_storeRow 3 ty_23 rfl rfl rfl rfl (by simp; omega) (by first | rfl | (simp only [List.set_cons_succ, List.set_cons_zero]; exact rfl)) ?_) | refine gl_op (op_storeRow 4 ty_23 rfl rfl rfl rfl (by simp; omega) (by first | rfl | (simp only [List.set_cons_succ, List.set_cons_zero]; exact rfl)) ?_) | refine gl_op (op_storeRow 5 ty_23 rfl rfl rfl rfl (by simp; omega) (by first | rfl | (simp only [List.set_cons_succ, List.set_cons_zero]; exact rfl)) ?_) | refine gl_op (op_storeRow 6 ty_23 rfl rfl rfl rfl (by simp; omega) (by first | rfl | (simp only [List.set_cons_succ, List.set_cons_zero]; exact rfl)) ?_)
            refine gl_nil ?_
            refine gx_then ?_
            refine gc_seq ?_
            refine gc_region ?_
            refine gl_op (op_rd rfl (rd_fieldAddr rfl (fa_91_1 _)) ?_)
            refine gl_op (op_rd rfl (rd_load Try.underlying23 rfl rfl (by first | exact ld_blk 1 rfl rfl | exact ld_blk 7 rfl rfl | exact ld_blk 8 rfl rfl | exact ld_old (by assumption) (by simp) | exact ld_cells (by assumption) (by simp) rfl)) ?_)
            refine gl_op (op_rd rfl (rd_move rfl) ?_)
            refine gl_op (op_buildSlice (sz := 1) rfl rfl (fun _ => bs_23_1_0 _) rfl rfl (fun b119 => ?_))
            refine gl_op (op_appendRow 4 0 Try.underlying23 ty_3 rfl (by decide) rfl rfl rfl rfl rfl (by simp [Value.oneCell']) (by omega) (by omega) (fun _ => (by first | rfl | (simp only [List.set_cons_succ, List.set_cons_zero]; exact rfl))) (fun r120 c120 => ?_))
            refine gl_op (op_rd rfl (rd_fieldAddr rfl (fa_91_1 _)) ?_)
            first | refine gl_op (op_store 2 ty_23 rfl rfl rfl rfl rfl (by first | rfl | (simp only [List.set_cons_succ, List.set_cons_zero]; exact rfl)) (by first | rfl | (simp only [List.set_cons_succ, List.set_cons_zero]; exact rfl)) ?_) | refine gl_op (op_store 8 ty_23 rfl rfl rfl rfl rfl (by first | rfl | (simp only [List.set_cons_succ, List.set_cons_zero]; exact rfl)) (by first | rfl | (simp only [List.set_cons_succ, List.set_cons_zero]; exact rfl)) ?_) | refine gl_op (op_store 9 ty_23 rfl rfl rfl rfl rfl (by first | rfl | (simp only [List.set_cons_succ, List.set_cons_zero]; exact rfl)) (by first | rfl | (simp only [List.set_cons_succ, List.set_cons_zero]; exact rfl)) ?_) | refine gl_op (op_storeRow 0 ty_23 rfl rfl rfl rfl (by simp; omega) (by first | rfl | (simp only [List.set_cons_succ, List.set_cons_zero]; exact rfl)) ?_) | refine gl_op (op_storeRow 1 ty_23 rfl rfl rfl rfl (by simp; omega) (by first | rfl | (simp only [List.set_cons_succ, List.set_cons_zero]; exact rfl)) ?_) | refine gl_op (op_storeRow 3 ty_23 rfl rfl rfl rfl (by simp; omega) (by first | rfl | (simp only [List.set_cons_succ, List.set_cons_zero]; exact rfl)) ?_) | refine gl_op (op_storeRow 4 ty_23 rfl rfl rfl rfl (by simp; omega) (by first | rfl | (simp only [List.set_cons_succ, List.set_cons_zero]; exact rfl)) ?_) | refine gl_op (op_storeRow 5 ty_23 rfl rfl rfl rfl (by simp; omega) (by first | rfl | (simp only [List.set_cons_succ, List.set_cons_zero]; exact rfl)) ?_) | refine gl_op (op_storeRow 6 ty_23 rfl rfl rfl rfl (by simp; omega) (by first | rfl | (simp only [List.set_cons_succ, List.set_cons_zero]; exact rfl)) ?_) | refine gl_op (op_storeRow 7 ty_23 rfl rfl rfl rfl (by simp; omega) (by first | rfl | (simp only [List.set_cons_succ, List.set_cons_zero]; exact rfl)) ?_)
            refine gl_nil ?_
            refine gx_then ?_
            refine gc_seq ?_
            refine gc_drawP [2, 3, 4, 6, 7, 9] false 9 rfl ?_
            refine ga_first 0 #[true, false, false, false, false, false, false, false, false, false] rfl rfl rfl rfl (by kernel_rfl) rfl ⟨[2, 3, 4, 6, 7, 9], by decide, rfl⟩ (qt_rd (rd_fieldAddr rfl (fa_91_2 _))) ?_
            refine ga_first 1 #[true, true, false, false, false, false, false, false, false, false] rfl rfl rfl rfl (by kernel_rfl) rfl ⟨[2, 3, 4, 6, 7, 9], by decide, rfl⟩ (qt_rd (rd_load Try.underlying23 rfl rfl (by first | exact ld_blk 0 rfl rfl | exact ld_blk 5 rfl rfl | exact ld_old (by assumption) (by simp) | exact ld_cells (by assumption) (by simp) rfl))) ?_
            refine ga_first 2 #[true, true, true, false, false, false, false, false, false, false] rfl rfl rfl rfl (by kernel_rfl) rfl ⟨[2, 3, 4, 6, 7, 9], by decide, rfl⟩ (qt_rd (rd_move rfl)) ?_
            refine ga_first 3 #[true, true, true, true, false, false, false, false, false, false] rfl rfl rfl rfl (by kernel_rfl) rfl ⟨[2, 3, 4, 6, 7, 9], by decide, rfl⟩ (qt_rd (rd_move rfl)) ?_
            refine ga_first 4 #[true, true, true, true, true, false, false, false, false, false] rfl rfl rfl rfl (by kernel_rfl) rfl ⟨[2, 3, 4, 6, 7, 9], by decide, rfl⟩ (qt_rd (by first | exact rd_indexRow1 1 rfl Try.underlying23 ty_3 rfl rfl (by omega) (by omega) | exact rd_indexRow1 2 rfl Try.underlying23 ty_3 rfl rfl (by omega) (by omega) | exact rd_indexRow1 3 rfl Try.underlying23 ty_3 rfl rfl (by omega) (by omega) | exact rd_indexRow1 4 rfl Try.underlying23 ty_3 rfl rfl (by omega) (by omega) | exact rd_indexOld1 (by assumption) Try.underlying23 ty_3 rfl rfl (by omega) (by omega) | exact rd_index1 Try.underlying23 ty_3 rfl rfl (by omega) (by omega))) ?_
            refine ga_first 5 #[true, true, true, true, true, true, false, false, false, false] rfl rfl rfl rfl (by kernel_rfl) rfl ⟨[2, 3, 4, 6, 7, 9], by decide, rfl⟩ (qt_rd (rd_load Try.underlying3 rfl rfl (by first | exact ld_rowN 5 rfl (get_nats hjl) | exact ld_rowN 4 rfl (get_nats hjl) | exact ld_rowN 6 rfl (get_nats hjl) | exact ld_rowN 7 rfl (get_nats hjl)))) ?_
            refine ga_only 6 #[true, true, true, true, true, true, true, false, false, false] rfl rfl (by kernel_rfl) rfl (.inr ⟨[2, 3, 4, 6, 7, 9], by decide, rfl⟩) (op_buildSlice (sz := 1) rfl rfl (fun _ => bs_23_1_0 _) rfl rfl (fun b128 => ?_))
            refine ga_only 7 #[true, true, true, true, true, true, true, true, false, false] rfl rfl (by kernel_rfl) rfl (.inr ⟨[3, 4, 5, 7, 8, 10], by decide, rfl⟩) (op_appendRow 6 0 Try.underlying23 ty_3 rfl (by decide) rfl rfl rfl rfl rfl (by simp [Value.oneCell']) (by omega) (by omega) (fun _ => (by first | rfl | (simp only [List.set_cons_succ, List.set_cons_zero]; exact rfl))) (fun r129 c129 => ?_))
            refine ga_first 8 #[true, true, true, true, true, true, true, true, true, false] rfl rfl rfl rfl (by kernel_rfl) rfl ⟨[3, 4, 5, 7, 8, 10], by decide, rfl⟩ (qt_rd (rd_fieldAddr rfl (fa_91_2 _))) ?_
            first | refine ga_only 9 #[true, true, true, true, true, true, true, true, true, true] rfl rfl (by kernel_rfl) rfl (.inr ⟨[3, 4, 5, 7, 8, 10], by decide, rfl⟩) (op_store 3 ty_23 rfl rfl rfl rfl rfl (by first | rfl | (simp only [List.set_cons_succ, List.set_cons_zero]; exact rfl)) (by first | rfl | (simp only [List.set_cons_succ, List.set_cons_zero]; exact rfl)) ?_) | refine ga_only 9 #[true, true, true, true, true, true, true, true, true, true] rfl rfl (by kernel_rfl) rfl (.inr ⟨[3, 4, 5, 7, 8, 10], by decide, rfl⟩) (op_store 9 ty_23 rfl rfl rfl rfl rfl (by first | rfl | (simp only [List.set_cons_succ, List.set_cons_zero]; exact rfl)) (by first | rfl | (simp only [List.set_cons_succ, List.set_cons_zero]; exact rfl)) ?_) | refine ga_only 9 #[true, true, true, true, true, true, true, true, true, true] rfl rfl (by kernel_rfl) rfl (.inr ⟨[3, 4, 5, 7, 8, 10], by decide, rfl⟩) (op_store 10 ty_23 rfl rfl rfl rfl rfl (by first | rfl | (simp only [List.set_cons_succ, List.set_cons_zero]; exact rfl)) (by first | rfl | (simp only [List.set_cons_succ, List.set_cons_zero]; exact rfl)) ?_) | refine ga_only 9 #[true, true, true, true, true, true, true, true, true, true] rfl rfl (by kernel_rfl) rfl (.inr ⟨[3, 4, 5, 7, 8, 10], by decide, rfl⟩) (op_storeRow 0 ty_23 rfl rfl rfl rfl (by simp; omega) (by first | rfl | (simp only [List.set_cons_succ, List.set_cons_zero]; exact rfl)) ?_) | refine ga_only 9 #[true, true, true, true, true, true, true, true, true, true] rfl rfl (by kernel_rfl) rfl (.inr ⟨[3, 4, 5, 7, 8, 10], by decide, rfl⟩) (op_storeRow 1 ty_23 rfl rfl rfl rfl (by simp; omega) (by first | rfl | (simp only [List.set_cons_succ, List.set_cons_zero]; exact rfl)) ?_) | refine ga_only 9 #[true, true, true, true, true, true, true, true, true, true] rfl rfl (by kernel_rfl) rfl (.inr ⟨[3, 4, 5, 7, 8, 10], by decide, rfl⟩) (op_storeRow 2 ty_23 rfl rfl rfl rfl (by simp; omega) (by first | rfl | (simp only [List.set_cons_succ, List.set_cons_zero]; exact rfl)) ?_) | refine ga_only 9 #[true, true, true, true, true, true, true, true, true, true] rfl rfl (by kernel_rfl) rfl (.inr ⟨[3, 4, 5, 7, 8, 10], by decide, rfl⟩) (op_storeRow 4 ty_23 rfl rfl rfl rfl (by simp; omega) (by first | rfl | (simp only [List.set_cons_succ, List.set_cons_zero]; exact rfl)) ?_) | refine ga_only 9 #[true, true, true, true, true, true, true, true, true, true] rfl rfl (by kernel_rfl) rfl (.inr ⟨[3, 4, 5, 7, 8, 10], by decide, rfl⟩) (op_storeRow 5 ty_23 rfl rfl rfl rfl (by simp; omega) (by first | rfl | (simp only [List.set_cons_succ, List.set_cons_zero]; exact rfl)) ?_) | refine ga_only 9 #[true, true, true, true, true, true, true, true, true, true] rfl rfl (by kernel_rfl) rfl (.inr ⟨[3, 4, 5, 7, 8, 10], by decide, rfl⟩) (op_storeRow 6 ty_23 rfl rfl rfl rfl (by simp; omega) (by first | rfl | (simp only [List.set_cons_succ, List.set_cons_zero]; exact rfl)) ?_) | refine ga_only 9 #[true, true, true, true, true, true, true, true, true, true] rfl rfl (by kernel_rfl) rfl (.inr ⟨[3, 4, 5, 7, 8, 10], by decide, rfl⟩) (op_storeRow 7 ty_23 rfl rfl rfl rfl (by simp; omega) (by first | rfl | (simp only [List.set_cons_succ, List.set_cons_zero]; exact rfl)) ?_) | refine ga_only 9 #[true, true, true, true, true, true, true, true, true, true] rfl rfl (by kernel_rfl) rfl (.inr ⟨[3, 4, 5, 7, 8, 10], by decide, rfl⟩) (op_storeRow 8 ty_23 rfl rfl rfl rfl (by simp; omega) (by first | rfl | (simp only [List.set_cons_succ, List.set_cons_zero]; exact rfl)) ?_)
            refine ga_end (by kernel_rfl) (.inl (by kernel_rfl)) ?_
            refine gx_then ?_
            refine gc_region ?_
            refine gl_op (op_rd rfl (rd_fieldAddr rfl (fa_91_3 _)) ?_)
            refine gl_op (op_rd rfl (rd_load Try.underlying23 rfl rfl (by first | exact ld_blk 3 rfl rfl | exact ld_blk 9 rfl rfl | exact ld_blk 10 rfl rfl | exact ld_old (by assumption) (by simp) | exact ld_cells (by assumption) (by simp) rfl)) ?_)
            refine gl_op (op_rd rfl (rd_move rfl) ?_)
            refine gl_op (op_rd rfl (rd_fieldAddr rfl (fa_91_0 _)) ?_)
            refine gl_op (op_rd rfl (rd_load Try.underlying23 rfl rfl (by first | exact ld_blk 3 rfl rfl | exact ld_blk 9 rfl rfl | exact ld_blk 10 rfl rfl | exact ld_old (by assumption) (by simp) | exact ld_cells (by assumption) (by simp) rfl)) ?_)
            refine gl_op (op_rd rfl (rd_lenSlice Try.underlying23 rfl) ?_)
            refine gl_op (op_rd rfl (by first | exact rd_indexRow1 0 rfl Try.underlying23 ty_3 rfl rfl (by omega) (by omega) | exact rd_indexRow1 1 rfl Try.underlying23 ty_3 rfl rfl (by omega) (by omega) | exact rd_indexRow1 2 rfl Try.underlying23 ty_3 rfl rfl (by omega) (by omega) | exact rd_indexRow1 4 rfl Try.underlying23 ty_3 rfl rfl (by omega) (by omega) | exact rd_indexRow1 5 rfl Try.underlying23 ty_3 rfl rfl (by omega) (by omega) | exact rd_indexRow1 6 rfl Try.underlying23 ty_3 rfl rfl (by omega) (by omega) | exact rd_indexRow1 7 rfl Try.underlying23 ty_3 rfl rfl (by omega) (by omega) | exact rd_indexRow1 8 rfl Try.underlying23 ty_3 rfl rfl (by omega) (by omega) | exact rd_indexOld1 (by assumption) Try.underlying23 ty_3 rfl rfl (by omega) (by omega) | exact rd_index1 Try.underlying23 ty_3 rfl rfl (by omega) (by omega)) ?_)
            first | refine gl_op (op_store 3 ty_3 rfl rfl rfl rfl rfl (by first | rfl | (simp only [List.set_cons_succ, List.set_cons_zero]; exact rfl)) (by first | rfl | (simp only [List.set_cons_succ, List.set_cons_zero]; exact rfl)) ?_) | refine gl_op (op_store 9 ty_3 rfl rfl rfl rfl rfl (by first | rfl | (simp only [List.set_cons_succ, List.set_cons_zero]; exact rfl)) (by first | rfl | (simp only [List.set_cons_succ, List.set_cons_zero]; exact rfl)) ?_) | refine gl_op (op_store 10 ty_3 rfl rfl rfl rfl rfl (by first | rfl | (simp only [List.set_cons_succ, List.set_cons_zero]; exact rfl)) (by first | rfl | (simp only [List.set_cons_succ, List.set_cons_zero]; exact rfl)) ?_) | refine gl_op (op_storeRow 0 ty_3 rfl rfl rfl rfl (by rw [List.length_map, place_len]; omega) (by first | rfl | (simp only [List.set_cons_succ, List.set_cons_zero]; exact rfl)) ?_) | refine gl_op (op_storeRow 1 ty_3 rfl rfl rfl rfl (by rw [List.length_map, place_len]; omega) (by first | rfl | (simp only [List.set_cons_succ, List.set_cons_zero]; exact rfl)) ?_) | refine gl_op (op_storeRow 2 ty_3 rfl rfl rfl rfl (by rw [List.length_map, place_len]; omega) (by first | rfl | (simp only [List.set_cons_succ, List.set_cons_zero]; exact rfl)) ?_) | refine gl_op (op_storeRow 4 ty_3 rfl rfl rfl rfl (by rw [List.length_map, place_len]; omega) (by first | rfl | (simp only [List.set_cons_succ, List.set_cons_zero]; exact rfl)) ?_) | refine gl_op (op_storeRow 5 ty_3 rfl rfl rfl rfl (by rw [List.length_map, place_len]; omega) (by first | rfl | (simp only [List.set_cons_succ, List.set_cons_zero]; exact rfl)) ?_) | refine gl_op (op_storeRow 6 ty_3 rfl rfl rfl rfl (by rw [List.length_map, place_len]; omega) (by first | rfl | (simp only [List.set_cons_succ, List.set_cons_zero]; exact rfl)) ?_) | refine gl_op (op_storeRow 7 ty_3 rfl rfl rfl rfl (by rw [List.length_map, place_len]; omega) (by first | rfl | (simp only [List.set_cons_succ, List.set_cons_zero]; exact rfl)) ?_) | refine gl_op (op_storeRow 8 ty_3 rfl rfl rfl rfl (by rw [List.length_map, place_len]; omega) (by first | rfl | (simp only [List.set_cons_succ, List.set_cons_zero]; exact rfl)) ?_)
            refine gl_nil ?_
            refine gx_block ?_
            refine gx_then ?_
            simp only [Int.toNat_natCast]
            rw [map_set_succ, place_add (f := (i : Int)) (g := ks.getD jk 0) hh hfl2, sV_add (f := (i : Int)) (g := ks.getD jk 0) hh, fV_add (f := (i : Int)) (g := ks.getD jk 0) hh, gV_add hh i, addN_len1 (f := (i : Int)) (g := ks.getD jk 0) hh]
            refine gc_region ?_
            refine gl_op (op_rd rfl (rd_move rfl) ?_)
            refine gl_op (op_rd rfl (by first | exact rd_addN (b := 1) rfl rfl (by omega) | exact rd_add rfl rfl (by omega) (by omega)) ?_)
            refine gl_op (op_rd rfl (rd_assign rfl) ?_)
            refine gl_nil ?_
            refine gx_then ?_
            exact gx_cut ((jk + 1, ⟨addN ms (flip x.state (ks.getD jk 0)) (i : Int) (ks.getD jk 0), r114, c114, r120, c120, r129, c129⟩)) ⟨⟨by simp only; omega, by simp only; rw [hme, ← expandP_succ hjl], addN_all hst2 hfl, by simp only; have := (addN_len ms (flip x.state (ks.getD jk 0)) (i : Int) (ks.getD jk 0)).1; omega, addN_ext _ _ _ _ _ _ hmx⟩, by simp only; omega⟩ ⟨rfl, rfl, rfl, rfl, rfl, rfl, rfl, rfl, trivial⟩ ⟨[3, 4, 5, 6, 7, 8, 9, 10], by decide, rfl⟩
          · skip
            have hh : hasS ms (flip x.state (ks.getD jk 0)) = true := by
              cases h : hasS ms (flip x.state (ks.getD jk 0)) with
              | true => rfl
              | false => exact absurd (by rw [pN_zero.2 h]; rfl) h109
            refine gl_nil ?_
            refine gx_then ?_
            refine gc_cond_f rfl ?_
            refine gc_skip ?_
            refine gx_block ?_
            refine gx_then ?_
            refine gc_region ?_
            refine gl_op (op_rd rfl (rd_move rfl) ?_)
            refine gl_op (op_rd rfl (by first | exact rd_addN (b := 1) rfl rfl (by omega) | exact rd_add rfl rfl (by omega) (by omega)) ?_)
            refine gl_op (op_rd rfl (rd_assign rfl) ?_)
            refine gl_nil ?_
            refine gx_then ?_
            exact gx_cut ((jk + 1, ⟨ms, rs, cs, rf, cf, rg, cg⟩)) ⟨⟨by simp only; omega, by simp only; rw [expandP_succ hjl, ← hme, addN_t hh], hst2, by simp only; omega, hmx⟩, by simp only; omega⟩ ⟨rfl, rfl, rfl, rfl, rfl, rfl, rfl, rfl, trivial⟩ ⟨[0, 1, 2, 3, 4, 5, 6, 7], by decide, rfl⟩
        · skip
          have hjk : jk = ks.length := by omega
          refine gl_nil ?_
          refine gx_then ?_
          refine gc_cond_f rfl ?_
          refine gc_exit ?_
          refine gx_then_exit ?_
          refine gx_then_exit ?_
          refine gx_block_exit ?_
          refine gx_block ?_
          refine gx_then ?_
          refine gc_region ?_
          refine gl_op (op_rd rfl (rd_move rfl) ?_)
          refine gl_op (op_rd rfl (by first | exact rd_addN (b := 1) rfl rfl (by omega) | exact rd_add rfl rfl (by omega) (by omega)) ?_)
          refine gl_op (op_rd rfl (rd_assign rfl) ?_)
          refine gl_nil ?_
          refine gx_then ?_
          exact gx_cut ((i + 1, ⟨ms, rs, cs, rf, cf, rg, cg⟩)) ⟨⟨by simp only; omega, by simp only; rw [show 1002 - (i + 1) = 1001 - i by omega, ← hgo, show 1002 - i = (1001 - i) + 1 by omega, rreachGo_step hx (by omega), hme, hjk, List.take_length, hks], hst2, by simp only; omega⟩, by simp only; omega⟩ ⟨rfl, rfl, rfl, rfl, rfl, rfl, trivial⟩ ⟨[0, 1, 2, 3, 4, 6, 7], by decide, rfl⟩
      · skip
        refine gl_op (op_rd rfl (rd_pick_t rfl rfl) ?_)
        refine gl_nil ?_
        refine gx_then ?_
        refine gc_cond_f rfl ?_
        refine gc_exit ?_
        refine gx_then_exit ?_
        refine gx_then_exit ?_
        refine gx_block_exit ?_
        refine gx_then ?_
        refine gc_seq ?_
        refine gc_region ?_
        refine gl_op (op_rd rfl (rd_loadAgg Try.underlying91 rfl ty_91 rfl (by first | exact cs_blk 0 (off := 0) (k := 4) rfl rfl | exact cs_blk 5 (off := 0) (k := 4) rfl rfl | exact cs_blk 6 (off := 0) (k := 4) rfl rfl | exact cs_old (by assumption) (by simp)) rfl) ?_)
        first | refine gl_op (op_storeAgg 0 ty_91 rfl rfl rfl rfl rfl rfl (by first | rfl | (simp only [List.set_cons_succ, List.set_cons_zero]; exact rfl)) ?_) | refine gl_op (op_storeAgg 5 ty_91 rfl rfl rfl rfl rfl rfl (by first | rfl | (simp only [List.set_cons_succ, List.set_cons_zero]; exact rfl)) ?_) | refine gl_op (op_storeAgg 6 ty_91 rfl rfl rfl rfl rfl rfl (by first | rfl | (simp only [List.set_cons_succ, List.set_cons_zero]; exact rfl)) ?_)
        refine gl_nil ?_
        refine gx_then ?_
        refine gc_ret ?_
        refine gx_retV1 (.inl rfl) Try.results67 (rv_agg Try.underlying91 rfl ty_91 rfl (by rfl) (cs_blk 5 (off := 0) (k := 4) rfl rfl)) [1, 2, 3, 4] (by decide) ?_
        rw [← hgo, rreachGo_end (by omega)]
        exact ⟨rs, cs, rf, cf, rg, cg, b20, rfl, rfl⟩
    · skip
      refine gl_op (op_rd rfl (rd_move rfl) ?_)
      refine gl_no rfl rfl rfl ?_
      refine gl_no rfl rfl rfl ?_
      refine gl_no rfl rfl rfl ?_
      refine gl_no rfl rfl rfl ?_
      refine gl_no rfl rfl rfl ?_
      refine gl_op (op_rd rfl (rd_pick_f rfl rfl) ?_)
      refine gl_nil ?_
      refine gx_then ?_
      refine gc_cond_f rfl ?_
      refine gc_exit ?_
      refine gx_then_exit ?_
      refine gx_then_exit ?_
      refine gx_block_exit ?_
      refine gx_then ?_
      refine gc_seq ?_
      refine gc_region ?_
      refine gl_op (op_rd rfl (rd_loadAgg Try.underlying91 rfl ty_91 rfl (by first | exact cs_blk 0 (off := 0) (k := 4) rfl rfl | exact cs_blk 5 (off := 0) (k := 4) rfl rfl | exact cs_blk 6 (off := 0) (k := 4) rfl rfl | exact cs_old (by assumption) (by simp)) rfl) ?_)
      first | refine gl_op (op_storeAgg 0 ty_91 rfl rfl rfl rfl rfl rfl (by first | rfl | (simp only [List.set_cons_succ, List.set_cons_zero]; exact rfl)) ?_) | refine gl_op (op_storeAgg 5 ty_91 rfl rfl rfl rfl rfl rfl (by first | rfl | (simp only [List.set_cons_succ, List.set_cons_zero]; exact rfl)) ?_) | refine gl_op (op_storeAgg 6 ty_91 rfl rfl rfl rfl rfl rfl (by first | rfl | (simp only [List.set_cons_succ, List.set_cons_zero]; exact rfl)) ?_)
      refine gl_nil ?_
      refine gx_then ?_
      refine gc_ret ?_
      refine gx_retV1 (.inl rfl) Try.results67 (rv_agg Try.underlying91 rfl ty_91 rfl (by rfl) (cs_blk 5 (off := 0) (k := 4) rfl rfl)) [1, 2, 3, 4] (by decide) ?_
      rw [← hgo, rreachGo_end (by omega)]
      exact ⟨rs, cs, rf, cf, rg, cg, b20, rfl, rfl⟩

end Go.Proofs.Yteocjpnckciboaa

set_option autoImplicit false
set_option linter.unusedVariables false
namespace Go.Proofs.Yteocjpnckciboaa
open Go.Gv
open Go.RowKit
namespace Ry
theorem snocN (xs : List Nat) (q : Nat) : xs.map natV ++ [natV q] = (xs ++ [q]).map natV := by simp
theorem snoc_len (xs : List Nat) (q : Nat) : xs.length + 1 = (xs ++ [q]).length := by simp
theorem bump_map_sub (to : List Int) (p : Nat) : (to.map intV).set p (.int .i64 (to.getD p 0 - 1)) = (bump (-1) to p).map intV := by rw [bump_map]; rfl
theorem bump_map_add (to : List Int) (p : Nat) : (to.map intV).set p (.int .i64 (to.getD p 0 + 1)) = (bump 1 to p).map intV := by rw [bump_map]
theorem RIn.mk' {ns : List Nd} {N : Nat} {rs rf rg rp : Option Nat} {cs cf cg : Nat} {w0 w : World} {S : List Nat} {l : List HL} (ho : Own w0 S w l) (i j k q : Nat) (hi : l[i]? = some (.row 3 1 rs ns.length cs (ns.map sV))) (hj : l[j]? = some (.row 3 1 rf ns.length cf (ns.map fV))) (hk : l[k]? = some (.row 3 1 rg ns.length cg (ns.map gV))) (hq : l[q]? = some (.row 3 1 rp N N ((placeL ns N).map natV))) :
    RIn ns N ⟨rowA rs, cs, rowA rf, cf, rowA rg, cg, rowA rp⟩ w := ⟨ho.rowSl i hi, ho.rowSl j hj, ho.rowSl k hk, ho.rowSl q hq⟩
structure RGr (c : Circ) (inn : Nat) (ns : List Nd) : Prop where
  gr : Gr c inn ns
  cl : Cl c inn ns
  pos : 0 < ns.length
  zero : (raceP c inn ns).kind = 0 → (rests c inn ns).length ≤ 1 ∧ endsP c inn ns = true
theorem rgr_of {c : Circ} {inn : Nat} (hg : c.Good) {s : Nat} {ns : List Nd} (hs : s < 2 ^ c.gates.length) (hr : reachP c inn [s] = some ns) : RGr c inn ns := by
  have R := reach_spec (U := (· < 2 ^ c.gates.length)) (closed_lt hg) (by simpa using hs) hr
  obtain ⟨x, hx, _⟩ := hasS_iff.1 (R.bg s (by simp))
  exact ⟨facts_gr hg hs hr, R.toCl, List.length_pos_of_mem hx, race_zero R⟩
theorem pl_lt' (ns : List Nd) (s : Nat) (h : 0 < ns.length) : pl ns s < ns.length := (pl_lt ns s h).1
theorem restAt_next {c : Circ} (hg : c.Good) {inn : Nat} {ns : List Nd} {i : Nat} {x : Nd} (hx : ns[i]? = some x) : restAt c inn ns i = true ↔ nextL c x.state inn = [] := by
  rw [restAt_some hx]; exact rest_iff hg
theorem getD0 {xs : List Nat} {k : Nat} (h : 0 < xs.length) : xs[0]? = some (xs.getD 0 0) := by simp [List.getD, List.getElem?_eq_getElem h]
theorem get_nats' {zs : List Nat} {k : Nat} (h : k < zs.length) : (zs.map natV)[k]? = some (natV (zs.getD k 0)) := by simp [h]
theorem rreachS_ok (c : Circ) (begin : List Nat) (a : Option Addr) (scp : Nat) (inn : Nat) (ns : List Nd) (w0 : World) (hc : c.In w0 []) (hgd : c.Good) (hin : inn < 2 ^ c.inputs.toNat) (hsl : OldSl w0 [] a begin.length 1 (begin.map natV)) (hbs : ∀ s ∈ begin, s < 2 ^ c.gates.length) (hbl : begin.length ≤ 50000) (hre : reachP c inn begin = some ns) : Sp Try.prog 67 [c.val, .slice a begin.length scp, natV inn, .int .i64 1000] w0 [] (fun v l => ∃ rs cs rf cf rg cg b, v = .agg #[.slice (rowA rs) ns.length cs, .slice (rowA rf) ns.length cf, .slice (rowA rg) ns.length cg, .slice (rowA (some b)) (1 <<< c.gates.length) (1 <<< c.gates.length)] ∧ l = [.row 3 1 rs ns.length cs (ns.map sV), .row 3 1 rf ns.length cf (ns.map fV), .row 3 1 rg ns.length cg (ns.map gV), .row 3 1 (some b) (1 <<< c.gates.length) (1 <<< c.gates.length) ((placeL ns (1 <<< c.gates.length)).map natV)]) := by
  have h := rreach_ok c begin a scp inn w0 hc hgd hin hsl hbs hbl
  rw [(rreach_some hre).1] at h
  exact h
end Ry
end Go.Proofs.Yteocjpnckciboaa

set_option autoImplicit false
set_option linter.unusedVariables false
namespace Go.Proofs.Yteocjpnckciboaa
open Go.Gv
open Go.RowKit
open Ry
set_option maxRecDepth 100000 in
set_option maxHeartbeats 1000000 in
theorem rway_ok (c : Circ) (inn : Nat) (ns : List Nd) (r : RAd) (w0 : World) (hr : RIn ns (1 <<< c.gates.length) r w0) (hwf : Wf ns) (i : Nat) (hi : i < ns.length) (hlen : ns.length ≤ 100000) : Sp Try.prog 80 [.agg (r.cells ns (1 <<< c.gates.length)).toArray, natV i] w0 [] (fun v l => ∃ r cp, v = .slice (rowA r) (wayP ns i).length cp ∧ l = [.row 3 1 r (wayP ns i).length cp ((wayP ns i).map natV)]) := by
  obtain ⟨hs, hf, hg, hp⟩ := hr
  obtain ⟨x0, hx0⟩ : ∃ y, ns[i]? = some y := ⟨ns[i], List.getElem?_eq_getElem hi⟩
  refine spec_enter Try.func80 rfl Try.ntmps80 rfl (Own.refl _) ?_
  simp only [argEnv]
  refine gc_seq ?_
  refine gc_region ?_
  refine gl_op (op_box rfl rfl rfl (fun b2 => ?_))
  refine gl_op (op_rd rfl (rd_assign rfl) ?_)
  refine gl_nil ?_
  refine gx_then ?_
  refine gc_seq ?_
  refine gc_region ?_
  refine gl_op (op_rd rfl (rd_assign rfl) ?_)
  refine gl_nil ?_
  refine gx_then ?_
  refine gc_seq ?_
  refine gc_block ?_
  refine gk_nil 3 1 ?_
  refine gc_loopF (ι := Nat × Nd × List Nat × Option Nat × Nat) [(2, _)] [_] (fun j => ns[j.1]? = some j.2.1 ∧ wayP ns j.1 ++ j.2.2.1 = wayP ns i ∧ j.2.2.1.length + j.1 ≤ i) (fun j Fr0 => ((1, natV j.1) :: (5, .slice (rowA j.2.2.2.1) j.2.2.1.length j.2.2.2.2) :: Fr0)) (fun j Fr0 => (.row 3 1 j.2.2.2.1 j.2.2.1.length j.2.2.2.2 (j.2.2.1.map natV) :: Fr0)) (fun j => j.1) (i, x0, [], none, 0) (⟨hx0, by simp, by simp⟩) ⟨rfl, rfl, rfl, trivial⟩ ⟨[0, 1], by decide, rfl⟩ ?_
  rintro ⟨k, x, o, ro, co⟩ ⟨hx, ho, hkl⟩
  simp only at hx ho hkl ⊢
  have hki := (List.getElem?_eq_some_iff.1 hx).1
  refine gc_seq ?_
  refine gc_seq ?_
  refine gc_region ?_
  refine gl_op (op_rd rfl (rd_fieldAddr rfl (fa_91_1 _)) ?_)
  refine gl_op (op_rd rfl (rd_load Try.underlying23 rfl rfl (by first | exact ld_blk 1 rfl rfl | exact ld_old (by assumption) (by simp) | exact ld_cells (by assumption) (by simp) rfl)) ?_)
  refine gl_op (op_rd rfl (rd_move rfl) ?_)
  refine gl_op (op_rd rfl (by first | exact rd_indexRow1 0 rfl Try.underlying23 ty_3 rfl rfl (by omega) (by omega) | exact rd_indexOld1 (by assumption) Try.underlying23 ty_3 rfl rfl (by omega) (by omega) | exact rd_index1 Try.underlying23 ty_3 rfl rfl (by omega) (by omega)) ?_)
  refine gl_op (op_rd rfl (rd_load Try.underlying3 rfl rfl (ld_slN hf (get_fV hx))) ?_)
  refine gl_op (op_rd rfl (rd_geq rfl rfl) (gk_dec (fun hge => ?_) (fun hge => ?_)))
  · skip
    obtain ⟨f, hfe⟩ : ∃ f : Nat, x.frm = f := ⟨x.frm.toNat, by omega⟩
    have hfk := hwf k x hx
    obtain ⟨x2, hx2⟩ : ∃ y, ns[f]? = some y := ⟨ns[f]'(by omega), List.getElem?_eq_getElem (by omega)⟩
    refine gl_nil ?_
    refine gx_then ?_
    refine gc_cond_t rfl ?_
    refine gc_skip ?_
    refine gx_then ?_
    refine gc_block ?_
    refine gc_seq ?_
    refine gc_region ?_
    refine gl_op (op_rd rfl (rd_fieldAddr rfl (fa_91_2 _)) ?_)
    refine gl_op (op_rd rfl (rd_load Try.underlying23 rfl rfl (by first | exact ld_blk 1 rfl rfl | exact ld_old (by assumption) (by simp) | exact ld_cells (by assumption) (by simp) rfl)) ?_)
    refine gl_op (op_rd rfl (rd_move rfl) ?_)
    refine gl_op (op_rd rfl (by first | exact rd_indexRow1 0 rfl Try.underlying23 ty_3 rfl rfl (by omega) (by omega) | exact rd_indexOld1 (by assumption) Try.underlying23 ty_3 rfl rfl (by omega) (by omega) | exact rd_index1 Try.underlying23 ty_3 rfl rfl (by omega) (by omega)) ?_)
    refine gl_op (op_rd rfl (rd_load Try.underlying3 rfl rfl (ld_slN hg (get_gV hx (by omega)))) ?_)
    refine gl_op (op_buildSlice (sz := 1) rfl rfl (fun _ => bs_23_1_0 _) rfl rfl (fun b17 => ?_))
    refine gl_op (op_rd rfl (rd_move rfl) ?_)
    refine gl_op (op_appendRowO 0 1 Try.underlying23 ty_3 rfl (by decide) rfl rfl (r := some b17) rfl rfl rfl (by simp [Value.oneCell']) (by omega) (by omega) (fun _ => (by first | rfl | (simp only [List.set_cons_succ, List.set_cons_zero]; exact rfl))) (fun r19 c19 => ?_))
    refine gl_op (op_rd rfl (rd_assign rfl) ?_)
    refine gl_nil ?_
    refine gx_then ?_
    rw [show 1 + o.length = (x.gate :: o).length by simp [Nat.add_comm], show [natV x.gate] ++ o.map natV = (x.gate :: o).map natV from rfl]
    refine gc_region ?_
    refine gl_op (op_rd rfl (rd_fieldAddr rfl (fa_91_1 _)) ?_)
    refine gl_op (op_rd rfl (rd_load Try.underlying23 rfl rfl (by first | exact ld_blk 1 rfl rfl | exact ld_blk 2 rfl rfl | exact ld_old (by assumption) (by simp) | exact ld_cells (by assumption) (by simp) rfl)) ?_)
    refine gl_op (op_rd rfl (rd_move rfl) ?_)
    refine gl_op (op_rd rfl (by first | exact rd_indexRow1 0 rfl Try.underlying23 ty_3 rfl rfl (by omega) (by omega) | exact rd_indexOld1 (by assumption) Try.underlying23 ty_3 rfl rfl (by omega) (by omega) | exact rd_index1 Try.underlying23 ty_3 rfl rfl (by omega) (by omega)) ?_)
    refine gl_op (op_rd rfl (rd_load Try.underlying3 rfl rfl (ld_slN hf (get_fV hx))) ?_)
    simp only [hfe]
    refine gl_op (op_rd rfl (rd_assign rfl) ?_)
    refine gl_nil ?_
    refine gx_block ?_
    refine gx_then ?_
    exact gx_cut ((f, x2, x.gate :: o, r19, c19)) ⟨⟨hx2, by rw [← ho, wayP_step hwf hx hfe]; simp, by simp only [List.length_cons]; omega⟩, by simp only; omega⟩ ⟨rfl, rfl, rfl, trivial⟩ ⟨[0, 2], by decide, rfl⟩
  · skip
    refine gl_nil ?_
    refine gx_then ?_
    refine gc_cond_f rfl ?_
    refine gc_exit ?_
    refine gx_then_exit ?_
    refine gx_then_exit ?_
    refine gx_block_exit ?_
    refine gx_then ?_
    refine gc_seq ?_
    refine gc_region ?_
    refine gl_op (op_rd rfl (rd_move rfl) ?_)
    refine gl_op (op_rd rfl (rd_assign rfl) ?_)
    refine gl_nil ?_
    refine gx_then ?_
    refine gc_ret ?_
    refine gx_ret1 (.inl rfl) Try.results80 rfl [0] (by decide) ?_
    have he : o = wayP ns i := by rw [← ho, wayP_end hx (by omega)]; rfl
    subst he
    exact ⟨ro, co, rfl, rfl⟩

set_option maxRecDepth 100000 in
set_option maxHeartbeats 1000000 in
theorem rends_ok (c : Circ) (inn : Nat) (ns : List Nd) (r : RAd) (w0 : World) (hr : RIn ns (1 <<< c.gates.length) r w0) (hc : c.In w0 []) (hgd : c.Good) (hin : inn < 2 ^ c.inputs.toNat) (hrg : RGr c inn ns) : Sp Try.prog 81 [c.val, .agg (r.cells ns (1 <<< c.gates.length)).toArray, natV inn] w0 [] (RV (.bool (endsP c inn ns))) := by
  obtain ⟨hs, hf, hg, hp⟩ := hr
  have hgr := hrg.gr
  have hcl := hrg.cl
  have hpos := hrg.pos
  have hlen := hgr.len
  have hg12 := hgd.g12
  have hpow : 2 ^ c.gates.length ≤ 2 ^ 12 := Nat.pow_le_pow_right (by decide) hg12
  have hN : 1 <<< c.gates.length ≤ 4096 := by rw [one_shl]; omega
  refine spec_enter Try.func81 rfl Try.ntmps81 rfl (Own.refl _) ?_
  simp only [argEnv]
  refine gc_seq ?_
  refine gc_region ?_
  refine gl_op (op_box rfl rfl rfl (fun b3 => ?_))
  refine gl_op (op_box rfl rfl rfl (fun b4 => ?_))
  refine gl_op (op_rd rfl (rd_assign rfl) ?_)
  refine gl_nil ?_
  refine gx_then ?_
  refine gc_seq ?_
  refine gc_region ?_
  refine gl_op (op_rd rfl (rd_fieldAddr rfl (fa_91_0 _)) ?_)
  refine gl_op (op_rd rfl (rd_load Try.underlying23 rfl rfl (by first | exact ld_blk 0 rfl rfl | exact ld_blk 1 rfl rfl | exact ld_old (by assumption) (by simp) | exact ld_cells (by assumption) (by simp) rfl)) ?_)
  refine gl_op (op_rd rfl (rd_lenSlice Try.underlying23 rfl) ?_)
  refine gl_op (op_makeSlice (ns.length) Try.underlying23 ty_3 rfl rfl rfl (by omega) (by omega) (by omega) (by omega) (fun b21 => ?_))
  refine gl_op (op_rd rfl (rd_assign rfl) ?_)
  refine gl_nil ?_
  refine gx_then ?_
  refine gc_seq ?_
  refine gc_seq ?_
  rw [made_one _ rfl, show (List.replicate ns.length (Value.int .i64 0)) = (List.replicate ns.length 0).map intV by simp]
  refine gc_region ?_
  refine gl_op (op_rd rfl (rd_assign rfl) ?_)
  refine gl_nil ?_
  refine gx_then ?_
  refine gc_block ?_
  refine gc_loopF (ι := Nat × List Int) [(2, _), (3, _), (4, _), (7, _)] [_, _] (fun j => j.1 ≤ ns.length ∧ j.2 = ((ns.take j.1).flatMap (succs c inn ns)).foldl (bump 1) (List.replicate ns.length 0) ∧ Bd ns.length 0 (12 * j.1) j.2) (fun j Fr0 => ((8, natV j.1) :: Fr0)) (fun j Fr0 => (.row 3 1 (some b21) ns.length ns.length (j.2.map intV) :: Fr0)) (fun j => ns.length - j.1) (0, List.replicate ns.length 0) (⟨Nat.zero_le _, rfl, ⟨by simp, fun p => by simp [List.getD, List.getElem?_replicate]; split <;> simp⟩⟩) ⟨rfl, rfl, rfl, rfl, rfl, trivial⟩ ⟨[0, 1, 2], by decide, rfl⟩ ?_
  rintro ⟨i, to⟩ ⟨hi, hto, hbd⟩
  simp only at hi hto hbd ⊢
  refine gc_seq ?_
  refine gc_seq ?_
  refine gc_region ?_
  refine gl_op (op_rd rfl (rd_move rfl) ?_)
  refine gl_op (op_rd rfl (rd_fieldAddr rfl (fa_91_0 _)) ?_)
  refine gl_op (op_rd rfl (rd_load Try.underlying23 rfl rfl (by first | exact ld_blk 1 rfl rfl | exact ld_blk 2 rfl rfl | exact ld_old (by assumption) (by simp) | exact ld_cells (by assumption) (by simp) rfl)) ?_)
  refine gl_op (op_rd rfl (rd_lenSlice Try.underlying23 rfl) ?_)
  refine gl_op (op_rd rfl (rd_lss rfl rfl) (gk_dec (fun hlt => ?_) (fun hlt => ?_)))
  · skip
    obtain ⟨x, hx⟩ : ∃ y, ns[i]? = some y := ⟨ns[i]'(by omega), List.getElem?_eq_getElem (by omega)⟩
    have hxs : x.state < 2 ^ c.gates.length := hgr.st x (List.mem_of_getElem? hx)
    have hxs2 := st_lt hgd hxs
    refine gl_nil ?_
    refine gx_then ?_
    refine gc_cond_t rfl ?_
    refine gc_skip ?_
    refine gx_then ?_
    refine gc_seq ?_
    refine gc_block ?_
    refine gc_seq ?_
    refine gc_drawP [0, 1, 2] true 8 rfl ?_
    refine ga_first 0 #[true, false, false, false, false, false, false, false, false] rfl rfl rfl rfl (by kernel_rfl) rfl ⟨[0, 1, 2], by decide, rfl⟩ (qt_rd (rd_loadAgg Try.underlying25 rfl ty_25 rfl (by first | exact cs_blk 1 (off := 0) (k := 3) rfl rfl | exact cs_blk 2 (off := 0) (k := 3) rfl rfl | exact cs_old (by assumption) (by simp)) rfl)) ?_
    refine ga_first 1 #[true, true, false, false, false, false, false, false, false] rfl rfl rfl rfl (by kernel_rfl) rfl ⟨[0, 1, 2], by decide, rfl⟩ (qt_rd (rd_fieldAddr rfl (fa_91_0 _))) ?_
    refine ga_first 2 #[true, true, true, false, false, false, false, false, false] rfl rfl rfl rfl (by kernel_rfl) rfl ⟨[0, 1, 2], by decide, rfl⟩ (qt_rd (rd_load Try.underlying23 rfl rfl (by first | exact ld_blk 1 rfl rfl | exact ld_blk 2 rfl rfl | exact ld_old (by assumption) (by simp) | exact ld_cells (by assumption) (by simp) rfl))) ?_
    refine ga_first 3 #[true, true, true, true, false, false, false, false, false] rfl rfl rfl rfl (by kernel_rfl) rfl ⟨[0, 1, 2], by decide, rfl⟩ (qt_rd (rd_move rfl)) ?_
    refine ga_first 4 #[true, true, true, true, true, false, false, false, false] rfl rfl rfl rfl (by kernel_rfl) rfl ⟨[0, 1, 2], by decide, rfl⟩ (qt_rd (by first | exact rd_indexRow1 0 rfl Try.underlying23 ty_3 rfl rfl (by omega) (by omega) | exact rd_indexOld1 (by assumption) Try.underlying23 ty_3 rfl rfl (by omega) (by omega) | exact rd_index1 Try.underlying23 ty_3 rfl rfl (by omega) (by omega))) ?_
    refine ga_first 5 #[true, true, true, true, true, true, false, false, false] rfl rfl rfl rfl (by kernel_rfl) rfl ⟨[0, 1, 2], by decide, rfl⟩ (qt_rd (rd_load Try.underlying3 rfl rfl (ld_slN hs (get_sV hx)))) ?_
    refine ga_first 6 #[true, true, true, true, true, true, true, false, false] rfl rfl rfl rfl (by kernel_rfl) rfl ⟨[0, 1, 2], by decide, rfl⟩ (qt_rd (rd_move rfl)) ?_
    refine ga_only 7 #[true, true, true, true, true, true, true, true, false] rfl rfl (by kernel_rfl) rfl (.inr ⟨[0, 1, 2], by decide, rfl⟩) (op_call rfl (vf := []) (vc := []) rfl rfl Try.call49 (fun w ho => rnext_ok c x.state inn w (hc.at ho) hgd hxs hin) ?_)
    rintro _ _ ⟨rk, ck, rfl, rfl⟩
    have hkl := nextL_len c x.state inn
    obtain ⟨ks, hks⟩ : ∃ ks, nextL c x.state inn = ks := ⟨_, rfl⟩
    rw [hks] at hkl ⊢
    refine ga_first 8 #[true, true, true, true, true, true, true, true, true] rfl rfl rfl rfl (by kernel_rfl) rfl ⟨[1, 2, 3], by decide, rfl⟩ (qt_rd (rd_assign rfl)) ?_
    refine ga_end (by kernel_rfl) (.inr ⟨[1, 2, 3], by decide, rfl⟩) ?_
    refine gx_then ?_
    refine gc_seq ?_
    refine gc_region ?_
    refine gl_op (op_rd rfl (rd_assign rfl) ?_)
    refine gl_nil ?_
    refine gx_then ?_
    refine gc_block ?_
    refine gc_loopF (ι := Nat × List Int) [(2, _), (3, _), (4, _), (7, _), (8, _), (9, _)] [_, _, _] (fun j => j.1 ≤ ks.length ∧ j.2 = ((succs c inn ns x).take j.1).foldl (bump 1) to ∧ Bd ns.length 0 (12 * i + j.1) j.2) (fun j Fr0 => ((10, natV j.1) :: Fr0)) (fun j Fr0 => (.row 3 1 (some b21) ns.length ns.length (j.2.map intV) :: Fr0)) (fun j => ks.length - j.1) (0, to) (⟨Nat.zero_le _, rfl, by simpa using hbd⟩) ⟨rfl, rfl, rfl, rfl, rfl, rfl, rfl, trivial⟩ ⟨[1, 0, 2, 3], by decide, rfl⟩ ?_
    rintro ⟨jk, t2⟩ ⟨hjk0, ht2, hbd2⟩
    simp only at hjk0 ht2 hbd2 ⊢
    refine gc_seq ?_
    refine gc_seq ?_
    refine gc_region ?_
    refine gl_op (op_rd rfl (rd_move rfl) ?_)
    refine gl_op (op_rd rfl (rd_move rfl) ?_)
    refine gl_op (op_rd rfl (rd_lenSlice Try.underlying23 rfl) ?_)
    refine gl_op (op_rd rfl (rd_lss rfl rfl) (gk_dec (fun hlt2 => ?_) (fun hlt2 => ?_)))
    · skip
      have hjl : jk < ks.length := by omega
      have hkm : ks.getD jk 0 ∈ nextL c x.state inn := by rw [hks]; exact mem_getD (d := 0) hjl
      have hkk := nextL_lt hkm
      have hfl := flip_lt (k := ks.getD jk 0) hxs hkk
      have hfl2 : flip x.state (ks.getD jk 0) < 1 <<< c.gates.length := by rw [one_shl]; exact hfl
      have hhas := hcl.cl x (List.mem_of_getElem? hx) _ hkm
      have hpl := pl_lt' ns (flip x.state (ks.getD jk 0)) hpos
      have hst := succs_take (c := c) (inn := inn) (ns := ns) (x := x) (j := jk) (by rw [hks]; exact hjl)
      rw [hks] at hst
      have hpn := pN_pos hhas
      obtain ⟨p, hpe⟩ : ∃ p, pl ns (flip x.state (ks.getD jk 0)) = p := ⟨_, rfl⟩
      rw [hpe] at hpl hst hpn
      have hbp := hbd2.bd p
      have htl := hbd2.len
      refine gl_nil ?_
      refine gx_then ?_
      refine gc_cond_t rfl ?_
      refine gc_skip ?_
      refine gx_then ?_
      refine gc_seq ?_
      refine gc_block ?_
      refine gc_drawP [0, 1, 2, 3] false 20 rfl ?_
      refine ga_first 0 #[true, false, false, false, false, false, false, false, false, false, false, false, false, false, false, false, false, false, false, false, false] rfl rfl rfl rfl (by kernel_rfl) rfl ⟨[0, 1, 2, 3], by decide, rfl⟩ (qt_rd (rd_move rfl)) ?_
      refine ga_first 1 #[true, true, false, false, false, false, false, false, false, false, false, false, false, false, false, false, false, false, false, false, false] rfl rfl rfl rfl (by kernel_rfl) rfl ⟨[0, 1, 2, 3], by decide, rfl⟩ (qt_rd (rd_fieldAddr rfl (fa_91_3 _))) ?_
      refine ga_first 2 #[true, true, true, false, false, false, false, false, false, false, false, false, false, false, false, false, false, false, false, false, false] rfl rfl rfl rfl (by kernel_rfl) rfl ⟨[0, 1, 2, 3], by decide, rfl⟩ (qt_rd (rd_load Try.underlying23 rfl rfl (by first | exact ld_blk 2 rfl rfl | exact ld_blk 3 rfl rfl | exact ld_old (by assumption) (by simp) | exact ld_cells (by assumption) (by simp) rfl))) ?_
      refine ga_first 3 #[true, true, true, true, false, false, false, false, false, false, false, false, false, false, false, false, false, false, false, false, false] rfl rfl rfl rfl (by kernel_rfl) rfl ⟨[0, 1, 2, 3], by decide, rfl⟩ (qt_rd (rd_fieldAddr rfl (fa_91_0 _))) ?_
      refine ga_first 4 #[true, true, true, true, true, false, false, false, false, false, false, false, false, false, false, false, false, false, false, false, false] rfl rfl rfl rfl (by kernel_rfl) rfl ⟨[0, 1, 2, 3], by decide, rfl⟩ (qt_rd (rd_load Try.underlying23 rfl rfl (by first | exact ld_blk 2 rfl rfl | exact ld_blk 3 rfl rfl | exact ld_old (by assumption) (by simp) | exact ld_cells (by assumption) (by simp) rfl))) ?_
      refine ga_first 5 #[true, true, true, true, true, true, false, false, false, false, false, false, false, false, false, false, false, false, false, false, false] rfl rfl rfl rfl (by kernel_rfl) rfl ⟨[0, 1, 2, 3], by decide, rfl⟩ (qt_rd (rd_move rfl)) ?_
      refine ga_first 6 #[true, true, true, true, true, true, true, false, false, false, false, false, false, false, false, false, false, false, false, false, false] rfl rfl rfl rfl (by kernel_rfl) rfl ⟨[0, 1, 2, 3], by decide, rfl⟩ (qt_rd (by first | exact rd_indexRow1 0 rfl Try.underlying23 ty_3 rfl rfl (by omega) (by omega) | exact rd_indexRow1 1 rfl Try.underlying23 ty_3 rfl rfl (by omega) (by omega) | exact rd_indexOld1 (by assumption) Try.underlying23 ty_3 rfl rfl (by omega) (by omega) | exact rd_index1 Try.underlying23 ty_3 rfl rfl (by omega) (by omega))) ?_
      refine ga_first 7 #[true, true, true, true, true, true, true, true, false, false, false, false, false, false, false, false, false, false, false, false, false] rfl rfl rfl rfl (by kernel_rfl) rfl ⟨[0, 1, 2, 3], by decide, rfl⟩ (qt_rd (rd_load Try.underlying3 rfl rfl (ld_slN hs (get_sV hx)))) ?_
      refine ga_first 8 #[true, true, true, true, true, true, true, true, true, false, false, false, false, false, false, false, false, false, false, false, false] rfl rfl rfl rfl (by kernel_rfl) rfl ⟨[0, 1, 2, 3], by decide, rfl⟩ (qt_rd (rd_move rfl)) ?_
      refine ga_first 9 #[true, true, true, true, true, true, true, true, true, true, false, false, false, false, false, false, false, false, false, false, false] rfl rfl rfl rfl (by kernel_rfl) rfl ⟨[0, 1, 2, 3], by decide, rfl⟩ (qt_rd (rd_move rfl)) ?_
      refine ga_first 10 #[true, true, true, true, true, true, true, true, true, true, true, false, false, false, false, false, false, false, false, false, false] rfl rfl rfl rfl (by kernel_rfl) rfl ⟨[0, 1, 2, 3], by decide, rfl⟩ (qt_rd (rd_indexRow1 1 rfl Try.underlying23 ty_3 rfl rfl (by omega) (by omega))) ?_
      refine ga_first 11 #[true, true, true, true, true, true, true, true, true, true, true, true, false, false, false, false, false, false, false, false, false] rfl rfl rfl rfl (by kernel_rfl) rfl ⟨[0, 1, 2, 3], by decide, rfl⟩ (qt_rd (rd_load Try.underlying3 rfl rfl (ld_rowN 1 rfl (get_nats hjl)))) ?_
      refine ga_first 12 #[true, true, true, true, true, true, true, true, true, true, true, true, true, false, false, false, false, false, false, false, false] rfl rfl rfl rfl (by kernel_rfl) rfl ⟨[0, 1, 2, 3], by decide, rfl⟩ (qt_call (vf := []) (vc := []) rfl rfl Try.call66 (fun w ho => rswitched_ok x.state _ w hxs2 (by omega)) (by rintro _ _ ⟨h, _⟩; exact h)) ?_
      refine ga_first 13 #[true, true, true, true, true, true, true, true, true, true, true, true, true, true, false, false, false, false, false, false, false] rfl rfl rfl rfl (by kernel_rfl) rfl ⟨[0, 1, 2, 3], by decide, rfl⟩ (qt_rd (by first | exact rd_indexRow1 0 rfl Try.underlying23 ty_3 rfl rfl (by omega) (by omega) | exact rd_indexRow1 1 rfl Try.underlying23 ty_3 rfl rfl (by omega) (by omega) | exact rd_indexOld1 (by assumption) Try.underlying23 ty_3 rfl rfl (by omega) (by omega) | exact rd_index1 Try.underlying23 ty_3 rfl rfl (by omega) (by omega))) ?_
      refine ga_first 14 #[true, true, true, true, true, true, true, true, true, true, true, true, true, true, true, false, false, false, false, false, false] rfl rfl rfl rfl (by kernel_rfl) rfl ⟨[0, 1, 2, 3], by decide, rfl⟩ (qt_rd (rd_load Try.underlying3 rfl rfl (ld_slN hp (get_nats (by rw [place_len]; omega))))) ?_
      rw [place_get hfl2, hpn]
      refine ga_first 15 #[true, true, true, true, true, true, true, true, true, true, true, true, true, true, true, true, false, false, false, false, false] rfl rfl rfl rfl (by kernel_rfl) rfl ⟨[0, 1, 2, 3], by decide, rfl⟩ (qt_rd (by first | exact rd_subN (b := 1) rfl rfl (by omega) (by omega) | exact rd_sub rfl rfl (by omega) (by omega))) ?_
      simp only [Nat.add_sub_cancel]
      refine ga_first 16 #[true, true, true, true, true, true, true, true, true, true, true, true, true, true, true, true, true, false, false, false, false] rfl rfl rfl rfl (by kernel_rfl) rfl ⟨[0, 1, 2, 3], by decide, rfl⟩ (qt_rd (rd_indexRow1 0 rfl Try.underlying23 ty_3 rfl rfl (by omega) (by omega))) ?_
      refine ga_first 17 #[true, true, true, true, true, true, true, true, true, true, true, true, true, true, true, true, true, true, false, false, false] rfl rfl rfl rfl (by kernel_rfl) rfl ⟨[0, 1, 2, 3], by decide, rfl⟩ (qt_rd (rd_load Try.underlying3 rfl rfl (ld_rowN 0 rfl (get_ints (by omega))))) ?_
      refine ga_first 18 #[true, true, true, true, true, true, true, true, true, true, true, true, true, true, true, true, true, true, true, false, false] rfl rfl rfl rfl (by kernel_rfl) rfl ⟨[0, 1, 2, 3], by decide, rfl⟩ (qt_rd (rd_add rfl rfl (by omega) (by omega))) ?_
      refine ga_first 19 #[true, true, true, true, true, true, true, true, true, true, true, true, true, true, true, true, true, true, true, true, false] rfl rfl rfl rfl (by kernel_rfl) rfl ⟨[0, 1, 2, 3], by decide, rfl⟩ (qt_rd (rd_indexRow1 0 rfl Try.underlying23 ty_3 rfl rfl (by omega) (by omega))) ?_
      first | refine ga_only 20 #[true, true, true, true, true, true, true, true, true, true, true, true, true, true, true, true, true, true, true, true, true] rfl rfl (by kernel_rfl) rfl (.inr ⟨[0, 1, 2, 3], by decide, rfl⟩) (op_store 2 ty_3 rfl rfl rfl rfl rfl (by first | rfl | (simp only [List.set_cons_succ, List.set_cons_zero]; exact rfl)) (by first | rfl | (simp only [List.set_cons_succ, List.set_cons_zero]; exact rfl)) ?_) | refine ga_only 20 #[true, true, true, true, true, true, true, true, true, true, true, true, true, true, true, true, true, true, true, true, true] rfl rfl (by kernel_rfl) rfl (.inr ⟨[0, 1, 2, 3], by decide, rfl⟩) (op_store 3 ty_3 rfl rfl rfl rfl rfl (by first | rfl | (simp only [List.set_cons_succ, List.set_cons_zero]; exact rfl)) (by first | rfl | (simp only [List.set_cons_succ, List.set_cons_zero]; exact rfl)) ?_) | refine ga_only 20 #[true, true, true, true, true, true, true, true, true, true, true, true, true, true, true, true, true, true, true, true, true] rfl rfl (by kernel_rfl) rfl (.inr ⟨[0, 1, 2, 3], by decide, rfl⟩) (op_storeRow 0 ty_3 rfl rfl rfl rfl (by rw [List.length_map]; omega) (by first | rfl | (simp only [List.set_cons_succ, List.set_cons_zero]; exact rfl)) ?_) | refine ga_only 20 #[true, true, true, true, true, true, true, true, true, true, true, true, true, true, true, true, true, true, true, true, true] rfl rfl (by kernel_rfl) rfl (.inr ⟨[0, 1, 2, 3], by decide, rfl⟩) (op_storeRow 1 ty_3 rfl rfl rfl rfl (by rw [List.length_map]; omega) (by first | rfl | (simp only [List.set_cons_succ, List.set_cons_zero]; exact rfl)) ?_)
      refine ga_end (by kernel_rfl) (.inl (by kernel_rfl)) ?_
      refine gx_block ?_
      refine gx_then ?_
      simp only [Int.toNat_natCast]
      rw [bump_map_add]
      refine gc_region ?_
      refine gl_op (op_rd rfl (rd_move rfl) ?_)
      refine gl_op (op_rd rfl (by first | exact rd_addN (b := 1) rfl rfl (by omega) | exact rd_add rfl rfl (by omega) (by omega)) ?_)
      refine gl_op (op_rd rfl (rd_assign rfl) ?_)
      refine gl_nil ?_
      refine gx_then ?_
      exact gx_cut ((jk + 1, bump 1 t2 p)) ⟨⟨by simp only; omega, by simp only; rw [hst, foldl_snoc, ← ht2], by have := hbd2.up hpl; simpa [Int.add_assoc] using this⟩, by simp only; omega⟩ ⟨rfl, rfl, rfl, rfl, rfl, rfl, rfl, trivial⟩ ⟨[0, 1, 2, 3], by decide, rfl⟩
    · skip
      refine gl_nil ?_
      refine gx_then ?_
      refine gc_cond_f rfl ?_
      refine gc_exit ?_
      refine gx_then_exit ?_
      refine gx_then_exit ?_
      refine gx_block_exit ?_
      refine gx_block ?_
      refine gx_then ?_
      refine gc_region ?_
      refine gl_op (op_rd rfl (rd_move rfl) ?_)
      refine gl_op (op_rd rfl (by first | exact rd_addN (b := 1) rfl rfl (by omega) | exact rd_add rfl rfl (by omega) (by omega)) ?_)
      refine gl_op (op_rd rfl (rd_assign rfl) ?_)
      refine gl_nil ?_
      refine gx_then ?_
      exact gx_cut ((i + 1, t2)) ⟨⟨by simp only; omega, by simp only; rw [flat_take_succ hx, List.foldl_append, ← hto, ht2, succs_all (by rw [hks]; omega)], ⟨hbd2.len, fun p => by have := hbd2.bd p; simp only; omega⟩⟩, by simp only; omega⟩ ⟨rfl, rfl, rfl, rfl, rfl, trivial⟩ ⟨[0, 2, 3], by decide, rfl⟩
  · skip
    refine gl_nil ?_
    refine gx_then ?_
    refine gc_cond_f rfl ?_
    refine gc_exit ?_
    refine gx_then_exit ?_
    refine gx_then_exit ?_
    refine gx_block_exit ?_
    refine gx_then ?_
    refine gc_seq ?_
    refine gc_region ?_
    refine gl_op (op_rd rfl (rd_assign rfl) ?_)
    refine gl_nil ?_
    refine gx_then ?_
    refine gc_seq ?_
    refine gc_seq ?_
    refine gc_region ?_
    refine gl_op (op_rd rfl (rd_assign rfl) ?_)
    refine gl_nil ?_
    refine gx_then ?_
    refine gc_block ?_
    refine gk_nil 3 1 ?_
    refine gc_loopF (ι := Nat × List Nat × Option Nat × Nat) [(2, _), (3, _), (4, _), (7, _)] [_, _, _] (fun j => j.1 ≤ ns.length ∧ j.2.1 = (List.range j.1).filter (zeroAt to)) (fun j Fr0 => ((12, natV j.1) :: (11, .slice (rowA j.2.2.1) j.2.1.length j.2.2.2) :: Fr0)) (fun j Fr0 => (.row 3 1 j.2.2.1 j.2.1.length j.2.2.2 (j.2.1.map natV) :: Fr0)) (fun j => ns.length - j.1) (0, [], none, 0) (⟨Nat.zero_le _, rfl⟩) ⟨rfl, rfl, rfl, rfl, rfl, rfl, trivial⟩ ⟨[0, 1, 2, 3], by decide, rfl⟩ ?_
    rintro ⟨q, fs, rf, cf⟩ ⟨hq, hfs⟩
    simp only at hq hfs ⊢
    have hfl := filter_range_le (zeroAt to) q
    rw [← hfs] at hfl
    have htl := hbd.len
    refine gc_seq ?_
    refine gc_seq ?_
    refine gc_region ?_
    refine gl_op (op_rd rfl (rd_move rfl) ?_)
    refine gl_op (op_rd rfl (rd_move rfl) ?_)
    refine gl_op (op_rd rfl (rd_lenSlice Try.underlying23 rfl) ?_)
    refine gl_op (op_rd rfl (rd_lss rfl rfl) (gk_dec (fun hlt3 => ?_) (fun hlt3 => ?_)))
    · skip
      refine gl_nil ?_
      refine gx_then ?_
      refine gc_cond_t rfl ?_
      refine gc_skip ?_
      refine gx_then ?_
      refine gc_seq ?_
      refine gc_block ?_
      refine gc_seq ?_
      refine gc_region ?_
      refine gl_op (op_rd rfl (rd_move rfl) ?_)
      refine gl_op (op_rd rfl (rd_move rfl) ?_)
      refine gl_op (op_rd rfl (rd_indexRow1 1 rfl Try.underlying23 ty_3 rfl rfl (by omega) (by omega)) ?_)
      refine gl_op (op_rd rfl (rd_load Try.underlying3 rfl rfl (ld_rowN 1 rfl (get_ints (by omega)))) ?_)
      refine gl_op (op_rd rfl (rd_eql rfl rfl) (gk_dec (fun hz => ?_) (fun hz => ?_)))
      · skip
        have hz1 : to.getD q 0 = 0 := hz
        have hz2 : zeroAt to q = true := by unfold zeroAt; rw [hz1]; rfl
        refine gl_nil ?_
        refine gx_then ?_
        refine gc_cond_t rfl ?_
        refine gc_region ?_
        refine gl_op (op_rd rfl (rd_move rfl) ?_)
        refine gl_op (op_rd rfl (rd_move rfl) ?_)
        refine gl_op (op_buildSlice (sz := 1) rfl rfl (fun _ => bs_23_1_0 _) rfl rfl (fun b76 => ?_))
        refine gl_op (op_appendRow 1 0 Try.underlying23 ty_3 rfl (by decide) rfl rfl rfl rfl rfl (by simp [Value.oneCell']) (by omega) (by omega) (fun _ => (by first | rfl | (simp only [List.set_cons_succ, List.set_cons_zero]; exact rfl))) (fun r77 c77 => ?_))
        refine gl_op (op_rd rfl (rd_assign rfl) ?_)
        refine gl_nil ?_
        refine gx_block ?_
        refine gx_then ?_
        rw [snocN, snoc_len fs q]
        refine gc_region ?_
        refine gl_op (op_rd rfl (rd_move rfl) ?_)
        refine gl_op (op_rd rfl (by first | exact rd_addN (b := 1) rfl rfl (by omega) | exact rd_add rfl rfl (by omega) (by omega)) ?_)
        refine gl_op (op_rd rfl (rd_assign rfl) ?_)
        refine gl_nil ?_
        refine gx_then ?_
        exact gx_cut ((q + 1, fs ++ [q], r77, c77)) ⟨⟨by simp only; omega, by simp only; rw [filter_range_t _ hz2, hfs]⟩, by simp only; omega⟩ ⟨rfl, rfl, rfl, rfl, rfl, rfl, trivial⟩ ⟨[1, 2, 3, 4], by decide, rfl⟩
      · skip
        have hz1 : ¬ to.getD q 0 = 0 := hz
        have hz2 : zeroAt to q = false := by unfold zeroAt; simpa using hz1
        refine gl_nil ?_
        refine gx_then ?_
        refine gc_cond_f rfl ?_
        refine gc_skip ?_
        refine gx_block ?_
        refine gx_then ?_
        refine gc_region ?_
        refine gl_op (op_rd rfl (rd_move rfl) ?_)
        refine gl_op (op_rd rfl (by first | exact rd_addN (b := 1) rfl rfl (by omega) | exact rd_add rfl rfl (by omega) (by omega)) ?_)
        refine gl_op (op_rd rfl (rd_assign rfl) ?_)
        refine gl_nil ?_
        refine gx_then ?_
        exact gx_cut ((q + 1, fs, rf, cf)) ⟨⟨by simp only; omega, by simp only; rw [filter_range_f _ hz2, hfs]⟩, by simp only; omega⟩ ⟨rfl, rfl, rfl, rfl, rfl, rfl, trivial⟩ ⟨[0, 1, 2, 3], by decide, rfl⟩
    · skip
      refine gl_nil ?_
      refine gx_then ?_
      refine gc_cond_f rfl ?_
      refine gc_exit ?_
      refine gx_then_exit ?_
      refine gx_then_exit ?_
      refine gx_block_exit ?_
      refine gx_then ?_
      refine gc_seq ?_
      refine gc_seq ?_
      refine gc_region ?_
      refine gl_op (op_rd rfl (rd_assign rfl) ?_)
      refine gl_nil ?_
      refine gx_then ?_
      refine gc_block ?_
      have hie : i = ns.length := by omega
      have hqe : q = ns.length := by omega
      have htc : to = toC c inn ns := by rw [hto, hie, List.take_length]; rfl
      have hfr : (List.range q).filter (zeroAt to) = freeI to := by unfold freeI; rw [htl, hqe]
      rw [hfr] at hfs
      have hFI := FI_init hbd
      refine gc_loopF (ι := Nat × List Int × List Nat × Option Nat × Nat) [(2, _), (3, _), (4, _), (7, _)] [_, _] (fun j => j.1 ≤ ns.length ∧ drainGo c inn ns (ns.length + 1 - j.1) j.1 j.2.1 j.2.2.1 = drainGo c inn ns (ns.length + 1) 0 (toC c inn ns) (freeI (toC c inn ns)) ∧ FI ns.length (-(12 * j.1)) 12000 j.2.1 j.2.2.1) (fun j Fr0 => ((13, natV j.1) :: (11, .slice (rowA j.2.2.2.1) j.2.2.1.length j.2.2.2.2) :: Fr0)) (fun j Fr0 => (.row 3 1 j.2.2.2.1 j.2.2.1.length j.2.2.2.2 (j.2.2.1.map natV) :: .row 3 1 (some b21) ns.length ns.length (j.2.1.map intV) :: Fr0)) (fun j => ns.length - j.1) (0, to, fs, rf, cf) (⟨Nat.zero_le _, by simp only; rw [hfs, htc]; rfl, by simp only; rw [hfs]; exact ⟨hFI.len, hFI.nd, hFI.lt, fun p => by have := hFI.bd p; omega⟩⟩) ⟨rfl, rfl, rfl, rfl, rfl, rfl, trivial⟩ ⟨[0, 1, 2, 3], by decide, rfl⟩ ?_
      rintro ⟨i, to, free, rf, cf⟩ ⟨hi, hgo, hF⟩
      simp only at hi hgo hF ⊢
      have hfl := hF.flen
      refine gc_seq ?_
      refine gc_seq ?_
      refine gc_region ?_
      refine gl_op (op_rd rfl (rd_move rfl) ?_)
      refine gl_op (op_rd rfl (rd_move rfl) ?_)
      refine gl_op (op_rd rfl (rd_lenSlice Try.underlying23 rfl) ?_)
      refine gl_op (op_rd rfl (rd_lss rfl rfl) (gk_dec (fun hlt4 => ?_) (fun hlt4 => ?_)))
      · skip
        have hil : i < free.length := by omega
        obtain ⟨p0, hp0⟩ : ∃ p, free.getD i 0 = p := ⟨_, rfl⟩
        have hp0l : p0 < ns.length := (hF.lt p0 (by rw [← hp0]; exact mem_getD (d := 0) hil)).1
        obtain ⟨x, hx⟩ : ∃ y, ns[p0]? = some y := ⟨ns[p0]'(by omega), List.getElem?_eq_getElem (by omega)⟩
        have hxs : x.state < 2 ^ c.gates.length := hgr.st x (List.mem_of_getElem? hx)
        have hxs2 := st_lt hgd hxs
        refine gl_nil ?_
        refine gx_then ?_
        refine gc_cond_t rfl ?_
        refine gc_skip ?_
        refine gx_then ?_
        refine gc_seq ?_
        refine gc_block ?_
        refine gc_seq ?_
        refine gc_drawP [0, 1, 2, 3] true 8 rfl ?_
        refine ga_first 0 #[true, false, false, false, false, false, false, false, false] rfl rfl rfl rfl (by kernel_rfl) rfl ⟨[0, 1, 2, 3], by decide, rfl⟩ (qt_rd (rd_fieldAddr rfl (fa_91_0 _))) ?_
        refine ga_first 1 #[true, true, false, false, false, false, false, false, false] rfl rfl rfl rfl (by kernel_rfl) rfl ⟨[0, 1, 2, 3], by decide, rfl⟩ (qt_rd (rd_load Try.underlying23 rfl rfl (by first | exact ld_blk 2 rfl rfl | exact ld_blk 3 rfl rfl | exact ld_old (by assumption) (by simp) | exact ld_cells (by assumption) (by simp) rfl))) ?_
        refine ga_first 2 #[true, true, true, false, false, false, false, false, false] rfl rfl rfl rfl (by kernel_rfl) rfl ⟨[0, 1, 2, 3], by decide, rfl⟩ (qt_rd (rd_move rfl)) ?_
        refine ga_first 3 #[true, true, true, true, false, false, false, false, false] rfl rfl rfl rfl (by kernel_rfl) rfl ⟨[0, 1, 2, 3], by decide, rfl⟩ (qt_rd (rd_move rfl)) ?_
        refine ga_first 4 #[true, true, true, true, true, false, false, false, false] rfl rfl rfl rfl (by kernel_rfl) rfl ⟨[0, 1, 2, 3], by decide, rfl⟩ (qt_rd (rd_indexRow1 0 rfl Try.underlying23 ty_3 rfl rfl (by omega) (by omega))) ?_
        refine ga_first 5 #[true, true, true, true, true, true, false, false, false] rfl rfl rfl rfl (by kernel_rfl) rfl ⟨[0, 1, 2, 3], by decide, rfl⟩ (qt_rd (rd_load Try.underlying3 rfl rfl (ld_rowN 0 rfl (get_nats hil)))) ?_
        rw [hp0]
        refine ga_first 6 #[true, true, true, true, true, true, true, false, false] rfl rfl rfl rfl (by kernel_rfl) rfl ⟨[0, 1, 2, 3], by decide, rfl⟩ (qt_rd (by first | exact rd_indexRow1 0 rfl Try.underlying23 ty_3 rfl rfl (by omega) (by omega) | exact rd_indexRow1 1 rfl Try.underlying23 ty_3 rfl rfl (by omega) (by omega) | exact rd_indexOld1 (by assumption) Try.underlying23 ty_3 rfl rfl (by omega) (by omega) | exact rd_index1 Try.underlying23 ty_3 rfl rfl (by omega) (by omega))) ?_
        refine ga_first 7 #[true, true, true, true, true, true, true, true, false] rfl rfl rfl rfl (by kernel_rfl) rfl ⟨[0, 1, 2, 3], by decide, rfl⟩ (qt_rd (rd_load Try.underlying3 rfl rfl (ld_slN hs (get_sV hx)))) ?_
        refine ga_first 8 #[true, true, true, true, true, true, true, true, true] rfl rfl rfl rfl (by kernel_rfl) rfl ⟨[0, 1, 2, 3], by decide, rfl⟩ (qt_rd (rd_assign rfl)) ?_
        refine ga_end (by kernel_rfl) (.inr ⟨[0, 1, 2, 3], by decide, rfl⟩) ?_
        refine gx_then ?_
        refine gc_seq ?_
        refine gc_region ?_
        refine gl_op (op_rd rfl (rd_loadAgg Try.underlying25 rfl ty_25 rfl (by first | exact cs_blk 2 (off := 0) (k := 3) rfl rfl | exact cs_blk 3 (off := 0) (k := 3) rfl rfl | exact cs_old (by assumption) (by simp)) rfl) ?_)
        refine gl_op (op_rd rfl (rd_move rfl) ?_)
        refine gl_op (op_rd rfl (rd_move rfl) ?_)
        refine gl_op (op_call rfl (vf := []) (vc := []) rfl rfl Try.call49 (fun w ho => rnext_ok c x.state inn w (hc.at ho) hgd hxs hin) ?_)
        rintro _ _ ⟨rk, ck, rfl, rfl⟩
        have hkl := nextL_len c x.state inn
        obtain ⟨ks, hks⟩ : ∃ ks, nextL c x.state inn = ks := ⟨_, rfl⟩
        rw [hks] at hkl ⊢
        refine gl_op (op_rd rfl (rd_assign rfl) ?_)
        refine gl_nil ?_
        refine gx_then ?_
        refine gc_seq ?_
        refine gc_region ?_
        refine gl_op (op_rd rfl (rd_assign rfl) ?_)
        refine gl_nil ?_
        refine gx_then ?_
        refine gc_block ?_
        refine gc_loopF (ι := Nat × List Int × List Nat × Option Nat × Nat) [(2, _), (3, _), (4, _), (7, _), (13, _), (14, _), (15, _)] [_, _, _] (fun j => j.1 ≤ ks.length ∧ ((succs c inn ns x).take j.1).foldl drainN (to, free) = (j.2.1, j.2.2.1) ∧ FI ns.length (-(12 * i) - j.1) 12000 j.2.1 j.2.2.1) (fun j Fr0 => ((16, natV j.1) :: (11, .slice (rowA j.2.2.2.1) j.2.2.1.length j.2.2.2.2) :: Fr0)) (fun j Fr0 => (.row 3 1 j.2.2.2.1 j.2.2.1.length j.2.2.2.2 (j.2.2.1.map natV) :: .row 3 1 (some b21) ns.length ns.length (j.2.1.map intV) :: Fr0)) (fun j => ks.length - j.1) (0, to, free, rf, cf) (⟨Nat.zero_le _, rfl, by simpa using hF⟩) ⟨rfl, rfl, rfl, rfl, rfl, rfl, rfl, rfl, rfl, trivial⟩ ⟨[1, 2, 0, 3, 4], by decide, rfl⟩ ?_
        rintro ⟨jk, to2, free2, r2, cp2⟩ ⟨hjk0, hfo, hF2⟩
        simp only at hjk0 hfo hF2 ⊢
        have hfl2 := hF2.flen
        refine gc_seq ?_
        refine gc_seq ?_
        refine gc_region ?_
        refine gl_op (op_rd rfl (rd_move rfl) ?_)
        refine gl_op (op_rd rfl (rd_move rfl) ?_)
        refine gl_op (op_rd rfl (rd_lenSlice Try.underlying23 rfl) ?_)
        refine gl_op (op_rd rfl (rd_lss rfl rfl) (gk_dec (fun hlt5 => ?_) (fun hlt5 => ?_)))
        · skip
          have hjl : jk < ks.length := by omega
          have hkm : ks.getD jk 0 ∈ nextL c x.state inn := by rw [hks]; exact mem_getD (d := 0) hjl
          have hkk := nextL_lt hkm
          have hfl := flip_lt (k := ks.getD jk 0) hxs hkk
          have hfl2 : flip x.state (ks.getD jk 0) < 1 <<< c.gates.length := by rw [one_shl]; exact hfl
          have hhas := hcl.cl x (List.mem_of_getElem? hx) _ hkm
          have hpl := pl_lt' ns (flip x.state (ks.getD jk 0)) hpos
          have hst := succs_take (c := c) (inn := inn) (ns := ns) (x := x) (j := jk) (by rw [hks]; exact hjl)
          rw [hks] at hst
          have hpn := pN_pos hhas
          obtain ⟨p, hpe⟩ : ∃ p, pl ns (flip x.state (ks.getD jk 0)) = p := ⟨_, rfl⟩
          rw [hpe] at hpl hst hpn
          have hbp := hF2.bd p
          have htl := hF2.len
          refine gl_nil ?_
          refine gx_then ?_
          refine gc_cond_t rfl ?_
          refine gc_skip ?_
          refine gx_then ?_
          refine gc_seq ?_
          refine gc_block ?_
          refine gc_seq ?_
          refine gc_drawP [0, 1, 2, 3, 4] true 11 rfl ?_
          refine ga_first 0 #[true, false, false, false, false, false, false, false, false, false, false, false] rfl rfl rfl rfl (by kernel_rfl) rfl ⟨[0, 1, 2, 3, 4], by decide, rfl⟩ (qt_rd (rd_fieldAddr rfl (fa_91_3 _))) ?_
          refine ga_first 1 #[true, true, false, false, false, false, false, false, false, false, false, false] rfl rfl rfl rfl (by kernel_rfl) rfl ⟨[0, 1, 2, 3, 4], by decide, rfl⟩ (qt_rd (rd_load Try.underlying23 rfl rfl (by first | exact ld_blk 3 rfl rfl | exact ld_blk 4 rfl rfl | exact ld_old (by assumption) (by simp) | exact ld_cells (by assumption) (by simp) rfl))) ?_
          refine ga_first 2 #[true, true, true, false, false, false, false, false, false, false, false, false] rfl rfl rfl rfl (by kernel_rfl) rfl ⟨[0, 1, 2, 3, 4], by decide, rfl⟩ (qt_rd (rd_move rfl)) ?_
          refine ga_first 3 #[true, true, true, true, false, false, false, false, false, false, false, false] rfl rfl rfl rfl (by kernel_rfl) rfl ⟨[0, 1, 2, 3, 4], by decide, rfl⟩ (qt_rd (rd_move rfl)) ?_
          refine ga_first 4 #[true, true, true, true, true, false, false, false, false, false, false, false] rfl rfl rfl rfl (by kernel_rfl) rfl ⟨[0, 1, 2, 3, 4], by decide, rfl⟩ (qt_rd (rd_move rfl)) ?_
          refine ga_first 5 #[true, true, true, true, true, true, false, false, false, false, false, false] rfl rfl rfl rfl (by kernel_rfl) rfl ⟨[0, 1, 2, 3, 4], by decide, rfl⟩ (qt_rd (rd_indexRow1 2 rfl Try.underlying23 ty_3 rfl rfl (by omega) (by omega))) ?_
          refine ga_first 6 #[true, true, true, true, true, true, true, false, false, false, false, false] rfl rfl rfl rfl (by kernel_rfl) rfl ⟨[0, 1, 2, 3, 4], by decide, rfl⟩ (qt_rd (rd_load Try.underlying3 rfl rfl (ld_rowN 2 rfl (get_nats hjl)))) ?_
          refine ga_first 7 #[true, true, true, true, true, true, true, true, false, false, false, false] rfl rfl rfl rfl (by kernel_rfl) rfl ⟨[0, 1, 2, 3, 4], by decide, rfl⟩ (qt_call (vf := []) (vc := []) rfl rfl Try.call66 (fun w ho => rswitched_ok x.state _ w hxs2 (by omega)) (by rintro _ _ ⟨h, _⟩; exact h)) ?_
          refine ga_first 8 #[true, true, true, true, true, true, true, true, true, false, false, false] rfl rfl rfl rfl (by kernel_rfl) rfl ⟨[0, 1, 2, 3, 4], by decide, rfl⟩ (qt_rd (by first | exact rd_indexRow1 0 rfl Try.underlying23 ty_3 rfl rfl (by omega) (by omega) | exact rd_indexRow1 1 rfl Try.underlying23 ty_3 rfl rfl (by omega) (by omega) | exact rd_indexRow1 2 rfl Try.underlying23 ty_3 rfl rfl (by omega) (by omega) | exact rd_indexOld1 (by assumption) Try.underlying23 ty_3 rfl rfl (by omega) (by omega) | exact rd_index1 Try.underlying23 ty_3 rfl rfl (by omega) (by omega))) ?_
          refine ga_first 9 #[true, true, true, true, true, true, true, true, true, true, false, false] rfl rfl rfl rfl (by kernel_rfl) rfl ⟨[0, 1, 2, 3, 4], by decide, rfl⟩ (qt_rd (rd_load Try.underlying3 rfl rfl (ld_slN hp (get_nats (by rw [place_len]; omega))))) ?_
          rw [place_get hfl2, hpn]
          refine ga_first 10 #[true, true, true, true, true, true, true, true, true, true, true, false] rfl rfl rfl rfl (by kernel_rfl) rfl ⟨[0, 1, 2, 3, 4], by decide, rfl⟩ (qt_rd (by first | exact rd_subN (b := 1) rfl rfl (by omega) (by omega) | exact rd_sub rfl rfl (by omega) (by omega))) ?_
          refine ga_first 11 #[true, true, true, true, true, true, true, true, true, true, true, true] rfl rfl rfl rfl (by kernel_rfl) rfl ⟨[0, 1, 2, 3, 4], by decide, rfl⟩ (qt_rd (rd_assign rfl)) ?_
          refine ga_end (by kernel_rfl) (.inr ⟨[0, 1, 2, 3, 4], by decide, rfl⟩) ?_
          refine gx_then ?_
          refine gc_seq ?_
          simp only [Nat.add_sub_cancel]
          refine gc_region ?_
          refine gl_op (op_rd rfl (rd_move rfl) ?_)
          refine gl_op (op_rd rfl (rd_move rfl) ?_)
          refine gl_op (op_rd rfl (rd_indexRow1 1 rfl Try.underlying23 ty_3 rfl rfl (by omega) (by omega)) ?_)
          refine gl_op (op_rd rfl (rd_load Try.underlying3 rfl rfl (ld_rowN 1 rfl (get_ints (by omega)))) ?_)
          refine gl_op (op_rd rfl (rd_sub rfl rfl (by omega) (by omega)) ?_)
          refine gl_op (op_rd rfl (rd_indexRow1 1 rfl Try.underlying23 ty_3 rfl rfl (by omega) (by omega)) ?_)
          first | refine gl_op (op_store 3 ty_3 rfl rfl rfl rfl rfl (by first | rfl | (simp only [List.set_cons_succ, List.set_cons_zero]; exact rfl)) (by first | rfl | (simp only [List.set_cons_succ, List.set_cons_zero]; exact rfl)) ?_) | refine gl_op (op_store 4 ty_3 rfl rfl rfl rfl rfl (by first | rfl | (simp only [List.set_cons_succ, List.set_cons_zero]; exact rfl)) (by first | rfl | (simp only [List.set_cons_succ, List.set_cons_zero]; exact rfl)) ?_) | refine gl_op (op_storeRow 0 ty_3 rfl rfl rfl rfl (by rw [List.length_map]; omega) (by first | rfl | (simp only [List.set_cons_succ, List.set_cons_zero]; exact rfl)) ?_) | refine gl_op (op_storeRow 1 ty_3 rfl rfl rfl rfl (by rw [List.length_map]; omega) (by first | rfl | (simp only [List.set_cons_succ, List.set_cons_zero]; exact rfl)) ?_) | refine gl_op (op_storeRow 2 ty_3 rfl rfl rfl rfl (by rw [List.length_map]; omega) (by first | rfl | (simp only [List.set_cons_succ, List.set_cons_zero]; exact rfl)) ?_)
          refine gl_nil ?_
          refine gx_then ?_
          refine gc_seq ?_
          simp only [Int.toNat_natCast]
          rw [bump_map_sub]
          refine gc_region ?_
          refine gl_op (op_rd rfl (rd_move rfl) ?_)
          refine gl_op (op_rd rfl (rd_move rfl) ?_)
          refine gl_op (op_rd rfl (rd_indexRow1 1 rfl Try.underlying23 ty_3 rfl rfl (by omega) (by omega)) ?_)
          refine gl_op (op_rd rfl (rd_load Try.underlying3 rfl rfl (ld_rowN 1 rfl (get_ints (by rw [bump_len]; omega)))) ?_)
          refine gl_op (op_rd rfl (rd_eql rfl rfl) (gk_dec (fun hz => ?_) (fun hz => ?_)))
          · skip
            have hz2 : (bump (-1) to2 p).getD p 0 = 0 := hz
            have hfl3 := (hF2.push hpl hz2).flen
            rw [List.length_append, List.length_singleton] at hfl3
            refine gl_nil ?_
            refine gx_then ?_
            refine gc_cond_t rfl ?_
            refine gc_region ?_
            refine gl_op (op_rd rfl (rd_move rfl) ?_)
            refine gl_op (op_rd rfl (rd_move rfl) ?_)
            refine gl_op (op_buildSlice (sz := 1) rfl rfl (fun _ => bs_23_1_0 _) rfl rfl (fun b126 => ?_))
            refine gl_op (op_appendRow 1 0 Try.underlying23 ty_3 rfl (by decide) rfl rfl rfl rfl rfl (by simp [Value.oneCell']) (by omega) (by omega) (fun _ => (by first | rfl | (simp only [List.set_cons_succ, List.set_cons_zero]; exact rfl))) (fun r127 c127 => ?_))
            refine gl_op (op_rd rfl (rd_assign rfl) ?_)
            refine gl_nil ?_
            refine gx_block ?_
            refine gx_then ?_
            rw [snocN, snoc_len free2 p]
            refine gc_region ?_
            refine gl_op (op_rd rfl (rd_move rfl) ?_)
            refine gl_op (op_rd rfl (by first | exact rd_addN (b := 1) rfl rfl (by omega) | exact rd_add rfl rfl (by omega) (by omega)) ?_)
            refine gl_op (op_rd rfl (rd_assign rfl) ?_)
            refine gl_nil ?_
            refine gx_then ?_
            exact gx_cut ((jk + 1, bump (-1) to2 p, free2 ++ [p], r127, c127)) ⟨⟨by simp only; omega, by simp only; rw [hst, foldl_snoc, hfo, drain_t hz2], by have := hF2.push hpl hz2; simpa [Int.sub_sub] using this⟩, by simp only; omega⟩ ⟨rfl, rfl, rfl, rfl, rfl, rfl, rfl, rfl, rfl, trivial⟩ ⟨[1, 2, 3, 4, 5], by decide, rfl⟩
          · skip
            have hz2 : (bump (-1) to2 p).getD p 0 ≠ 0 := hz
            refine gl_nil ?_
            refine gx_then ?_
            refine gc_cond_f rfl ?_
            refine gc_skip ?_
            refine gx_block ?_
            refine gx_then ?_
            refine gc_region ?_
            refine gl_op (op_rd rfl (rd_move rfl) ?_)
            refine gl_op (op_rd rfl (by first | exact rd_addN (b := 1) rfl rfl (by omega) | exact rd_add rfl rfl (by omega) (by omega)) ?_)
            refine gl_op (op_rd rfl (rd_assign rfl) ?_)
            refine gl_nil ?_
            refine gx_then ?_
            exact gx_cut ((jk + 1, bump (-1) to2 p, free2, r2, cp2)) ⟨⟨by simp only; omega, by simp only; rw [hst, foldl_snoc, hfo, drain_f hz2], by have := hF2.step hpl; simpa [Int.sub_sub] using this⟩, by simp only; omega⟩ ⟨rfl, rfl, rfl, rfl, rfl, rfl, rfl, rfl, rfl, trivial⟩ ⟨[0, 1, 2, 3, 4], by decide, rfl⟩
        · skip
          refine gl_nil ?_
          refine gx_then ?_
          refine gc_cond_f rfl ?_
          refine gc_exit ?_
          refine gx_then_exit ?_
          refine gx_then_exit ?_
          refine gx_block_exit ?_
          refine gx_block ?_
          refine gx_then ?_
          refine gc_region ?_
          refine gl_op (op_rd rfl (rd_move rfl) ?_)
          refine gl_op (op_rd rfl (by first | exact rd_addN (b := 1) rfl rfl (by omega) | exact rd_add rfl rfl (by omega) (by omega)) ?_)
          refine gl_op (op_rd rfl (rd_assign rfl) ?_)
          refine gl_nil ?_
          refine gx_then ?_
          exact gx_cut ((i + 1, to2, free2, r2, cp2)) ⟨⟨by simp only; omega, by simp only; rw [← hgo, show ns.length + 1 - i = (ns.length + 1 - (i + 1)) + 1 by omega, drainGo_step hil hp0 hx (by rw [← hfo, succs_all (by rw [hks]; omega)])], ⟨hF2.len, hF2.nd, hF2.lt, fun p => by have := hF2.bd p; simp only; omega⟩⟩, by simp only; omega⟩ ⟨rfl, rfl, rfl, rfl, rfl, rfl, trivial⟩ ⟨[0, 1, 3, 4], by decide, rfl⟩
      · skip
        refine gl_nil ?_
        refine gx_then ?_
        refine gc_cond_f rfl ?_
        refine gc_exit ?_
        refine gx_then_exit ?_
        refine gx_then_exit ?_
        refine gx_block_exit ?_
        refine gx_then ?_
        refine gc_seq ?_
        refine gc_region ?_
        refine gl_op (op_rd rfl (rd_move rfl) ?_)
        refine gl_op (op_rd rfl (rd_lenSlice Try.underlying23 rfl) ?_)
        refine gl_op (op_rd rfl (rd_fieldAddr rfl (fa_91_0 _)) ?_)
        refine gl_op (op_rd rfl (rd_load Try.underlying23 rfl rfl (by first | exact ld_blk 2 rfl rfl | exact ld_blk 3 rfl rfl | exact ld_old (by assumption) (by simp) | exact ld_cells (by assumption) (by simp) rfl)) ?_)
        refine gl_op (op_rd rfl (rd_lenSlice Try.underlying23 rfl) ?_)
        refine gl_op (op_rd rfl (rd_eql rfl rfl) ?_)
        refine gl_op (op_rd rfl (rd_assign rfl) ?_)
        refine gl_nil ?_
        refine gx_then ?_
        refine gc_ret ?_
        refine gx_ret1 (.inl rfl) Try.results81 rfl [] (by decide) ?_
        refine ⟨congrArg Value.bool ?_, rfl⟩
        unfold endsP
        rw [← hgo, show ns.length + 1 - i = (ns.length - i) + 1 by omega, drainGo_end (by omega), Bool.eq_iff_iff]
        simp
        omega

end Go.Proofs.Yteocjpnckciboaa
