import Derived.Test.YthcbcdjkfefnlaaGv
import Derived.Scope
import Derived.Laws.CopyRow
import Derived.Lib.MakeNoZero
import Derived.Laws.BytesArg
import Derived.Laws.StructEq
import Derived.Lib.SlBytesConst
/- The engine: maps of values, parts of slices, bytes, strings. -/
set_option linter.unusedSimpArgs false
set_option linter.unusedVariables false
set_option linter.unnecessarySimpa false
set_option autoImplicit false
set_option linter.unusedVariables false
namespace Go.Gv
open Go.RowKit
abbrev intV (z : Int) : Value := .int .i64 z
abbrev natV (z : Nat) : Value := .int .i64 (z : Int)
abbrev boolV (b : Bool) : Value := .bool b
/-- the value is v0, no memory is handed over -/
def RV (v0 : Value) : Value → List HL → Prop := fun v l => v = v0 ∧ l = []
theorem set_self {l : List HL} {i : Nat} {x : HL} (hi : l[i]? = some x) : l.set i x = l := by
  apply List.ext_getElem?
  intro j
  rw [List.getElem?_set]
  split
  · rename_i h; subst h
    split
    · exact hi.symm
    · rename_i h2; simp [List.getElem?_eq_none (by omega : l.length ≤ i)] at hi
  · rfl
theorem snocN (xs : List Nat) (q : Nat) : xs.map natV ++ [natV q] = (xs ++ [q]).map natV := by simp
theorem snocI (xs : List Int) (q : Int) : xs.map intV ++ [intV q] = (xs ++ [q]).map intV := by simp
theorem snoc_len {α : Type} (xs : List α) (q : α) : xs.length + 1 = (xs ++ [q]).length := by simp
theorem mem_getD {α : Type} {d : α} {xs : List α} {k : Nat} (h : k < xs.length) : xs.getD k d ∈ xs := by simp [h]
theorem getD_of_mem {α : Type} (d : α) {xs : List α} {x : α} (h : x ∈ xs) : ∃ i, i < xs.length ∧ xs.getD i d = x := by
  obtain ⟨i, hi⟩ := List.mem_iff_getElem?.1 h
  obtain ⟨h1, h2⟩ := List.getElem?_eq_some_iff.1 hi
  exact ⟨i, h1, by simp [h1, h2]⟩
theorem getD_set {α : Type} {d : α} (l : List α) (i k : Nat) (a : α) (h : i < l.length) : (l.set i a).getD k d = if i = k then a else l.getD k d := by
  simp only [List.getD_eq_getElem?_getD, List.getElem?_set, h]
  split <;> simp
theorem setN (ts : List Nat) (k x : Nat) : (ts.map natV).set k (natV x) = (ts.set k x).map natV := by rw [List.map_set]
theorem setB (ts : List Bool) (k : Nat) (x : Bool) : (ts.map boolV).set k (boolV x) = (ts.set k x).map boolV := by rw [List.map_set]
theorem get_some {α : Type} {xs : List α} {k : Nat} (h : k < xs.length) : ∃ x, xs[k]? = some x := ⟨xs[k], List.getElem?_eq_getElem h⟩
theorem getD_some {α : Type} {d : α} {xs : List α} {k : Nat} {x : α} (h : xs[k]? = some x) : xs.getD k d = x := by simp [List.getD, h]
theorem natInt (xs : List Nat) : (xs.map fun n : Nat => (n : Int)).map intV = xs.map natV := by simp [List.map_map]
theorem natInt_eq (xs ys : List Nat) : (xs.map (fun n : Nat => (n : Int)) = ys.map fun n : Nat => (n : Int)) ↔ xs = ys := by
  constructor
  · intro h
    have := congrArg (List.map Int.toNat) h
    simpa [List.map_map, Function.comp_def] using this
  · intro h; rw [h]
theorem drop_at {α : Type} {xs : List α} {i : Nat} {x : α} (hx : xs[i]? = some x) : xs.drop i = x :: xs.drop (i + 1) := by
  have h : i < xs.length := (List.getElem?_eq_some_iff.1 hx).1
  rw [List.drop_eq_getElem_cons h, (List.getElem?_eq_some_iff.1 hx).2]
theorem take_at {α : Type} {xs : List α} {i : Nat} {x : α} (hx : xs[i]? = some x) : xs.take (i + 1) = xs.take i ++ [x] := by
  have h : i < xs.length := (List.getElem?_eq_some_iff.1 hx).1
  rw [List.take_succ_eq_append_getElem h, (List.getElem?_eq_some_iff.1 hx).2]
theorem get_flat {α : Type} (f : α → List Value) (m : Nat) (hf : ∀ x, (f x).length = m) {zs : List α} {k j : Nat} {x : α} (h : zs[k]? = some x) (hj : j < m) {v : Value} (hv : (f x)[j]? = some v) : (zs.flatMap f)[k * m + j]? = some v := by
  have hlt : k < zs.length := (List.getElem?_eq_some_iff.1 h).1
  rw [flat_get f m hf x zs k j hlt hj]
  rw [show zs.getD k x = x from by simp [List.getD, h]]
  exact hv
theorem flat_set {α : Type} (f : α → List Value) (m : Nat) (hf : ∀ x, (f x).length = m) : ∀ (zs : List α) (k : Nat) (x : α), k < zs.length → (zs.set k x).flatMap f = (zs.flatMap f).take (k * m) ++ (f x ++ (zs.flatMap f).drop (k * m + m))
  | [], k, x, h => by simp at h
  | z :: zs, 0, x, _ => by
    have := hf z
    subst this
    simp [List.flatMap_cons]
  | z :: zs, k + 1, x, h => by
    have ih := flat_set f m hf zs k x (by simpa using h)
    have e1 : (k + 1) * m = (f z).length + k * m := by rw [hf, Nat.add_mul, Nat.one_mul, Nat.add_comm]
    rw [List.set_cons_succ, List.flatMap_cons, ih, List.flatMap_cons, e1, List.take_length_add_append, Nat.add_assoc, List.drop_length_add_append, List.append_assoc]
section
variable {P : Program} {n : Nat} {Q : Exit → Act → World → Prop} {K : Act → World → Prop} {e : Env} {w0 : World} {S : List Nat} {l : List HL} {d : Nat} {dst : Option Nat} {ty : TypeId} {pos : String} {aft : Array Edge} {gd : Option (Nat × Bool)}
theorem op_appendRowO (i i2 : Nat) {t E E2 : TypeId} {z : Value} {size bytes : Nat} {x y : Operand} {r g : Option Nat} {m cap : Nat} {xs : List Value} {mm c : Nat} {news : List Value} (hu : P.underlying t = some (.slice E)) (ht : TyF P E z size bytes)
    (hzs : z.cells.size = size) (hsz : 0 < size) (hd : Nat.ble n d = false) (hx : e.ev x = some (.slice (rowA r) m cap)) (hy : e.ev y = some (.slice (rowA g) mm c)) (hi : l[i]? = some (.row E size r m cap xs)) (hi2 : l[i2]? = some (.row E2 size g mm c news))
    (h1 : ∀ u ∈ news, u.oneCell' = true) (hb : (m + mm) * bytes ≤ 140737488355328) (h63 : m + mm ≤ 9223372036854775807) {lf : HL → List HL} (hl' : ∀ y, l.set i y = lf y)
    (k : ∀ r' cap', GK n K ((d, .slice (rowA r') (m + mm) cap') :: e) w0 S (lf (.row E size r' (m + mm) cap' (xs ++ news)))) :
    GK n (fun a w => Oper.wp P ⟨some d, .call { callee := .builtin .append, args := #[x, y], argTypes := #[t, t] }, ty, pos, aft, gd⟩ a w K Q) e w0 S l := by
  cases g with
  | some g => exact op_appendRow i i2 hu ht hzs hsz hd hx hy hi hi2 h1 hb h63 hl' k
  | none =>
    intro ac w hs ho
    have hh2 := ho.holds _ (List.mem_of_getElem? hi2)
    obtain ⟨hn, hmm, hc⟩ := hh2
    subst hmm
    have hnews : news = [] := List.eq_nil_of_length_eq_zero (by simpa using hn)
    subst hnews
    have k' := k r cap
    rw [← hl', List.append_nil, Nat.add_zero, set_self hi] at k'
    have hh := ho.holds _ (List.mem_of_getElem? hi)
    have hr := run_append_none (P := P) (t := t) (ty := ty) hu ht hh c
    have hr2 : (execOp ac.eval ⟨some d, .call { callee := .builtin .append, args := #[x, y], argTypes := #[t, t] }, ty, pos, aft, gd⟩).run P w = .ok (.value (.slice (rowA r) m cap)) w := by
      simp only [rowA] at hy
      simp [execOp, resolve, invoke, builtin, hs.ev hx, hs.ev hy, hr]
    exact wp_value hr2 (k' _ _ (hs.put (blt_lt hd) _) ho)

/-! ### max -/
theorem rd_max2 {x y : Operand} {k : IntKind} {p q : Int} {ats : Array TypeId} (hx : e.ev x = some (.int k p)) (hy : e.ev y = some (.int k q)) :
    Rd P n e w0 S l ⟨dst, .call { callee := .builtin .max, args := #[x, y], argTypes := ats }, ty, pos, aft, gd⟩ (.int k (max p q)) :=
  fun a w hs ho => by
    have e1 : (if q > p then q else p) = max p q := by split <;> omega
    simp [execOp, resolve, invoke, builtin, hs.ev hx, hs.ev hy, Builtin.max_, Builtin.max2]
    exact e1
theorem rd_max3 {x y z : Operand} {k : IntKind} {p q r : Int} {ats : Array TypeId} (hx : e.ev x = some (.int k p)) (hy : e.ev y = some (.int k q)) (hz : e.ev z = some (.int k r)) :
    Rd P n e w0 S l ⟨dst, .call { callee := .builtin .max, args := #[x, y, z], argTypes := ats }, ty, pos, aft, gd⟩ (.int k (max (max p q) r)) :=
  fun a w hs ho => by
    have e1 : (if q > p then q else p) = max p q := by split <;> omega
    have e2 : (if r > max p q then r else max p q) = max (max p q) r := by split <;> omega
    simp [execOp, resolve, invoke, builtin, hs.ev hx, hs.ev hy, hs.ev hz, Builtin.max_, Builtin.max2, e1]
    omega

/-! ### parts of slices -/
theorem sliceBound_ok {P : Program} {w : World} {k : IntKind} {i : Int} {cap : Nat} {b : BoundsCode} (h0 : 0 ≤ i) (h1 : i ≤ cap) : (Instr.sliceBound (.int k i) cap b).run P w = .ok i.toNat w := by
  simp [Instr.sliceBound, asIntOf, h0, h1]
def subA (a : Option Addr) (cap k size : Nat) : Option Addr := if cap = k then a else a.map (·.add (k * size))
theorem rd_sliceLo {t E : TypeId} {z : Value} {size bytes : Nat} {x y : Operand} {a : Option Addr} {m cap : Nat} {k : IntKind} {i : Int} (hu : P.underlying t = some (.slice E)) (ht : TyF P E z size bytes) (hx : e.ev x = some (.slice a m cap)) (hy : e.ev y = some (.int k i)) (h0 : 0 ≤ i) (h1 : i ≤ m) :
    Rd P n e w0 S l ⟨dst, .slice t x (some y) none none, ty, pos, aft, gd⟩ (.slice (subA a cap i.toNat size) (m - i.toNat) (cap - i.toNat)) :=
  fun ac w hs ho => by
    simp [execOp, hs.ev hx, hs.ev hy, Instr.sliceAt, Instr.slice, Instr.sliceBounds, run_underlying hu, sliceBound_ok h0 h1, ht.runSize, subA]
theorem rd_sliceHi {t E : TypeId} {z : Value} {size bytes : Nat} {x y : Operand} {a : Option Addr} {m cap : Nat} {k : IntKind} {i : Int} (hu : P.underlying t = some (.slice E)) (ht : TyF P E z size bytes) (hx : e.ev x = some (.slice a m cap)) (hy : e.ev y = some (.int k i)) (h0 : 0 ≤ i) (h1 : i ≤ cap) :
    Rd P n e w0 S l ⟨dst, .slice t x none (some y) none, ty, pos, aft, gd⟩ (.slice a i.toNat cap) :=
  fun ac w hs ho => by
    have e1 : (if cap = 0 then a else a.map (·.add (0 * size))) = a := by
      split
      · rfl
      · cases a <;> simp [Addr.add]
    simp [execOp, hs.ev hx, hs.ev hy, Instr.sliceAt, Instr.slice, Instr.sliceBounds, run_underlying hu, sliceBound_ok h0 h1, ht.runSize]
    simpa using e1
theorem OldSl.drop {w : World} {a : Option Addr} {m size cap : Nat} {cells : List Value} (h : OldSl w S a m size cells) (k : Nat) (hk : k ≤ m) (hc : m ≤ cap) : OldSl w S (subA a cap k size) (m - k) size (cells.drop (k * size)) := by
  refine ⟨by rw [List.length_drop, h.len, Nat.sub_mul], fun hp => ?_, fun j v hv => ?_, fun hp => ?_⟩
  · have := h.isSome (by omega)
    unfold subA; rw [if_neg (by omega)]
    cases a with
    | none => cases this
    | some ad => rfl
  · rw [List.getElem?_drop] at hv
    have hj := (List.getElem?_eq_some_iff.1 hv).1
    rw [h.len] at hj
    have hlt : k < m := by
      rcases Nat.lt_or_ge k m with h2 | h2
      · exact h2
      · have := Nat.mul_le_mul_right size h2; omega
    have h2 := h.cells _ _ hv
    have := h.isSome (by omega)
    unfold subA; rw [if_neg (by omega)]
    cases a with
    | none => cases this
    | some ad =>
      show w.cell? ((ad.add (k * size)).add j) = some v
      rw [add_add]; exact h2
  · have h2 := h.out (by omega)
    have := h.isSome (by omega)
    unfold subA; rw [if_neg (by omega)]
    cases a with
    | none => cases this
    | some ad =>
      show (ad.add (k * size)).block ∉ S
      rw [block_add]; exact h2
theorem OldSl.take {w : World} {a : Option Addr} {m size : Nat} {cells : List Value} (h : OldSl w S a m size cells) (k : Nat) (hk : k ≤ m) : OldSl w S a k size (cells.take (k * size)) := by
  refine ⟨by rw [List.length_take, h.len, Nat.min_eq_left (Nat.mul_le_mul_right size hk)], fun hp => h.isSome (by omega), fun j v hv => ?_, fun hp => h.out (by omega)⟩
  rw [List.getElem?_take] at hv
  split at hv
  · exact h.cells j v hv
  · cases hv
theorem oldNil (w : World) (S : List Nat) (size : Nat) : OldSl w S none 0 size [] := ⟨by simp, fun h => absurd h (by decide), fun j v hv => by simp at hv, fun h => absurd h (by decide)⟩
theorem flat_drop_all {α : Type} (f : α → List Value) (m : Nat) (hf : ∀ x, (f x).length = m) : ∀ (zs : List α) (k : Nat), (zs.flatMap f).drop (k * m) = (zs.drop k).flatMap f
  | [], k => by simp
  | z :: zs, 0 => by simp
  | z :: zs, k + 1 => by
    have e1 : (k + 1) * m = (f z).length + k * m := by rw [hf, Nat.add_mul, Nat.one_mul, Nat.add_comm]
    rw [List.flatMap_cons, e1, ← List.drop_drop, List.drop_left, flat_drop_all f m hf zs k]; rfl

/-! ### equal arrays of two numbers -/
theorem run_eqArr2 {t E : TypeId} {k : IntKind} (hu : P.underlying t = some (.array 2 E)) (hE : P.underlying E = some (.int k)) {z : Value} {bytes : Nat} (ht : TyF P E z 1 bytes) (a b c d : Int) (N : Nat) (w : World) :
    (Op.equalIn (N + 2) t (.agg #[.int k a, .int k b]) (.agg #[.int k c, .int k d])).run P w = .ok (decide (a = c ∧ b = d)) w := by
  have hA := run_isAgg hE w
  have hp : ∀ (x y : Value) (i : Nat) (v : Value), #[x, y][i]? = some v → (part E #[x, y] i).run P w = .ok v w := fun x y i v hv => by
    simp [part, hA, isAggD, hv]
  have hq : ∀ (x y : Int), (Op.equalIn (N + 1) E (.int k x) (.int k y)).run P w = .ok (x == y) w := fun x y => by simp [Op.equalIn, run_underlying hE]
  rw [Op.equalIn.eq_2]
  simp only [Sem.run_bind, run_underlying hu, Result.andThen_ok, ht.runSize, Std.Legacy.Range.forIn_eq_forIn_range', Std.Legacy.Range.size]
  simp only [show List.range' 0 ((2 - 0 + 1 - 1) / 1) 1 = [0, 1] from rfl, List.forIn_cons, List.forIn_nil, Sem.run_bind]
  simp only [hp _ _ (0 * 1) _ rfl, hp _ _ (1 * 1) _ rfl, Result.andThen_ok, hq]
  by_cases h1 : a = c
  · subst h1
    by_cases h2 : b = d
    · subst h2; simp [hp _ _ (0 * 1) _ rfl, hp _ _ (1 * 1) _ rfl, hq]
    · simp [h2, hp _ _ (0 * 1) _ rfl, hp _ _ (1 * 1) _ rfl, hq]
  · simp [h1, hp _ _ (0 * 1) _ rfl, hp _ _ (1 * 1) _ rfl, hq]
theorem rd_eqlArr2 {t ty' E : TypeId} {k : IntKind} {x y : Operand} {z : Value} {bytes : Nat} {p q r s : Int} (hgt : P.eqGuardType P.depth t = false) (hu : P.underlying t = some (.array 2 E)) (hE : P.underlying E = some (.int k)) (ht : TyF P E z 1 bytes) (hx : e.ev x = some (.agg #[.int k p, .int k q])) (hy : e.ev y = some (.agg #[.int k r, .int k s])) :
    Rd P n e w0 S l ⟨dst, .binOp .eql t x y ty', ty, pos, aft, gd⟩ (.bool (decide (p = r ∧ q = s))) :=
  fun a w hs ho => by
    have h := run_eqArr2 hu hE ht p q r s 9998 w
    have h' : (Op.equal t (.agg #[.int k p, .int k q]) (.agg #[.int k r, .int k s])).run P w = .ok (decide (p = r ∧ q = s)) w := h
    simp [execOp, hs.ev hx, hs.ev hy, eqGuard, binOp, hgt, h']

/-! ### maps from integers, whatever they lead to, in the order of insertion -/
def KV (es : List MapEntry) (m : List (Int × Value)) : Prop := es.map (fun x => (x.key, x.val)) = m.map fun p => (Value.int .i64 p.1, p.2)
def lkv (k : Int) : List (Int × Value) → Option Value
  | [] => none
  | (a, v) :: l => if k = a then some v else lkv k l
theorem KV.nil : KV [] [] := rfl
theorem KV.snoc {es : List MapEntry} {m : List (Int × Value)} (h : KV es m) (k : Int) (v : Value) (nb : Nat) : KV (es ++ [⟨.int .i64 k, v, nb⟩]) (m ++ [(k, v)]) := by
  unfold KV at *; rw [List.map_append, List.map_append, h]; rfl
theorem findNow_kv (q : IntKind) (k : Int) : ∀ (es : List MapEntry) (m : List (Int × Value)) (i : Nat), KV es m → ∃ j, Instr.findNow (.int q) (.int .i64 k) es i = some ((lkv k m).map fun v => (j, v))
  | [], [], i, _ => ⟨0, rfl⟩
  | [], _ :: _, i, h => by simp [KV] at h
  | _ :: _, [], i, h => by simp [KV] at h
  | x :: es, (a, v) :: m, i, h => by
    simp only [KV, List.map_cons, List.cons.injEq, Prod.mk.injEq] at h
    obtain ⟨⟨hk, hv⟩, hr⟩ := h
    obtain ⟨xk, xv, xb⟩ := x
    simp only at hk hv
    subst hk; subst hv
    by_cases hka : k = a
    · subst hka; exact ⟨i, by simp [lkv, Instr.findNow, Instr.sameNow]⟩
    · obtain ⟨j, hj⟩ := findNow_kv q k es m (i + 1) hr
      have h' : (k == a) = false := by simp [hka]
      exact ⟨j, by simp [lkv, Instr.findNow, Instr.sameNow, hka, h', hj]⟩
theorem run_findKeyV {q : IntKind} {kt : TypeId} (hk : P.underlying kt = some (.int q)) (k : Int) {es : List MapEntry} {m : List (Int × Value)} (hm : KV es m) (w : World) : ∃ j, (Instr.findKey kt (.int .i64 k) es).run P w = .ok ((lkv k m).map fun v => (j, v)) w := by
  obtain ⟨j, hj⟩ := findNow_kv q k es m 0 hm
  exact ⟨j, by simp [Instr.findKey, run_underlying hk, hj]⟩
theorem lookupV_run {q : IntKind} {t kt et : TypeId} {z : Value} {b : Nat} {es : List MapEntry} {nb : Nat} {m : List (Int × Value)} {k : Int} {w : World} {size bytes : Nat} (hu : P.underlying t = some (.map kt et)) (hk : P.underlying kt = some (.int q)) (ht : TyF P et z size bytes) (hb : w.heap[b]? = some (.map es.toArray nb)) (hm : KV es m) (ok : Bool) :
    (Instr.lookup t (.map (some b)) (.int .i64 k) ok).run P w = .ok (if ok then .tuple #[(lkv k m).getD z, .bool (lkv k m).isSome] else (lkv k m).getD z) w := by
  obtain ⟨j, hj⟩ := run_findKeyV (P := P) hk k hm w
  have h1 := MapKept.run_getObj_map (P := P) hb
  cases h : lkv k m with
  | none =>
    rw [h] at hj
    simp [Instr.lookup, run_underlying hu, h1, run_checkKey hk, hj, ht.runZero]
  | some v =>
    rw [h] at hj
    simp [Instr.lookup, run_underlying hu, h1, run_checkKey hk, hj]
theorem rd_lookupVOk (j : Nat) {q : IntKind} {t kt et : TypeId} {x y : Operand} {z : Value} {b : Nat} {es : List MapEntry} {nb : Nat} {m : List (Int × Value)} {k : Int} {size bytes : Nat} (hm : KV es m) (hj : l[j]? = some (.obj b (.map es.toArray nb))) (hu : P.underlying t = some (.map kt et)) (hk : P.underlying kt = some (.int q)) (ht : TyF P et z size bytes) (hx : e.ev x = some (.map (some b))) (hy : e.ev y = some (.int .i64 k)) :
    Rd P n e w0 S l ⟨dst, .lookup t x y true, ty, pos, aft, gd⟩ (.tuple #[(lkv k m).getD z, .bool (lkv k m).isSome]) :=
  fun a w hs ho => by
    have hb : w.heap[b]? = some (.map es.toArray nb) := ho.holds _ (List.mem_of_getElem? hj)
    have := lookupV_run (P := P) (z := z) (k := k) hu hk ht hb hm true
    simp only [if_true] at this
    simp [execOp, hs.ev hx, hs.ev hy, this]
theorem rd_lookupV (j : Nat) {q : IntKind} {t kt et : TypeId} {x y : Operand} {z : Value} {b : Nat} {es : List MapEntry} {nb : Nat} {m : List (Int × Value)} {k : Int} {size bytes : Nat} (hm : KV es m) (hj : l[j]? = some (.obj b (.map es.toArray nb))) (hu : P.underlying t = some (.map kt et)) (hk : P.underlying kt = some (.int q)) (ht : TyF P et z size bytes) (hx : e.ev x = some (.map (some b))) (hy : e.ev y = some (.int .i64 k)) :
    Rd P n e w0 S l ⟨dst, .lookup t x y false, ty, pos, aft, gd⟩ ((lkv k m).getD z) :=
  fun a w hs ho => by
    have hb : w.heap[b]? = some (.map es.toArray nb) := ho.holds _ (List.mem_of_getElem? hj)
    have := lookupV_run (P := P) (z := z) (k := k) hu hk ht hb hm false
    simp only [Bool.false_eq_true, if_false] at this
    simp [execOp, hs.ev hx, hs.ev hy, this]
theorem op_makeMapV {t : TypeId} (hd : Nat.ble n d = false) (k : ∀ b, GK n K ((d, .map (some b)) :: e) w0 S (.obj b (.map ([] : List MapEntry).toArray 0) :: l)) :
    GK n (fun a w => Oper.wp P ⟨some d, .makeMap t none, ty, pos, aft, gd⟩ a w K Q) e w0 S l := fun a w hs ho => by
  have hr : (execOp a.eval ⟨some d, .makeMap t none, ty, pos, aft, gd⟩).run P w = .ok (.value (.map (some w.heap.size))) (w.alloc (.map ([] : List MapEntry).toArray 0)) := by
    simp [execOp, Instr.makeMap]
  exact wp_value hr (k _ _ _ (hs.put (blt_lt hd) _) (ho.alloc (.obj w.heap.size (.map ([] : List MapEntry).toArray 0)) _ rfl (heap_alloc_new w _)))
theorem op_mapInsertV (i : Nat) {q : IntKind} {t kt et : TypeId} {x y z : Operand} {b : Nat} {es : List MapEntry} {nb : Nat} {m : List (Int × Value)} {kk : Int} {v : Value} (hm : KV es m) (hu : P.underlying t = some (.map kt et)) (hk : P.underlying kt = some (.int q)) (hx : e.ev x = some (.map (some b))) (hy : e.ev y = some (.int .i64 kk)) (hz : e.ev z = some v)
    (hi : l[i]? = some (.obj b (.map es.toArray nb))) (hno : lkv kk m = none) {l' : List HL} (hl' : l.set i (.obj b (.map (es ++ [MapEntry.mk (.int .i64 kk) v nb]).toArray (nb + 1))) = l') (k : GK n K e w0 S l') :
    GK n (fun a w => Oper.wp P ⟨none, .mapUpdate t x y z, ty, pos, aft, gd⟩ a w K Q) e w0 S l := fun a w hs ho => by
  subst hl'
  have hb : w.heap[b]? = some (.map es.toArray nb) := ho.holds _ (List.mem_of_getElem? hi)
  have hlt := lt_size hb
  have h1 := MapKept.run_getObj_map (P := P) hb
  obtain ⟨j, hj⟩ := run_findKeyV (P := P) hk kk hm w
  rw [hno] at hj
  have h2 := MapKept.run_setObj_map (P := P) (.map (es ++ [MapEntry.mk (.int .i64 kk) v nb]).toArray (nb + 1)) hb
  have hr2 : (execOp a.eval ⟨none, .mapUpdate t x y z, ty, pos, aft, gd⟩).run P w = .ok .skip { w with heap := w.heap.setIfInBounds b (.map (es ++ [MapEntry.mk (.int .i64 kk) v nb]).toArray (nb + 1)) } := by
    have e2 : (es.toArray.push { key := .int .i64 kk, val := v, born := nb } : Array MapEntry) = (es ++ [MapEntry.mk (.int .i64 kk) v nb]).toArray := by simp
    simp [execOp, hs.ev hx, hs.ev hy, hs.ev hz, Instr.mapUpdate, run_underlying hu, h1, run_checkKey hk, hj]
    simp [h2, e2]
  refine wp_skip' rfl hr2 (k _ _ hs ?_)
  refine ho.turn hi rfl rfl rfl (by simp) (fun b' hb' hne => ?_) ?_ (fun b' hb' => .inl hb')
  · simp only [HL.block, ne_eq, Option.some.injEq] at hne
    simp [Array.getElem?_setIfInBounds, hne]
  · simp [HL.holds, hlt]
theorem op_clearMap (i : Nat) {t : TypeId} {de : TypeDesc} {x : Operand} {b : Nat} {es : List MapEntry} {nb : Nat} (hu : P.underlying t = some de) (hx : e.ev x = some (.map (some b))) (hi : l[i]? = some (.obj b (.map es.toArray nb))) {l' : List HL} (hl' : l.set i (.obj b (.map ([] : List MapEntry).toArray nb)) = l') (k : GK n K e w0 S l') :
    GK n (fun a w => Oper.wp P ⟨none, .call { callee := .builtin .clear, args := #[x], argTypes := #[t] }, ty, pos, aft, gd⟩ a w K Q) e w0 S l := fun a w hs ho => by
  subst hl'
  have hb : w.heap[b]? = some (.map es.toArray nb) := ho.holds _ (List.mem_of_getElem? hi)
  have hlt := lt_size hb
  have h1 := MapKept.run_getObj_map (P := P) hb
  have h2 := MapKept.run_setObj_map (P := P) (.map ([] : List MapEntry).toArray nb) hb
  have hr2 : (execOp a.eval ⟨none, .call { callee := .builtin .clear, args := #[x], argTypes := #[t] }, ty, pos, aft, gd⟩).run P w = .ok (.value (.tuple #[])) { w with heap := w.heap.setIfInBounds b (.map ([] : List MapEntry).toArray nb) } := by
    cases de <;> simp [execOp, resolve, invoke, builtin, hs.ev hx, Builtin.clear_, run_underlying hu, h1, h2]
  refine wp_value hr2 (k _ _ hs ?_)
  refine ho.turn hi rfl rfl rfl (by simp) (fun b' hb' hne => ?_) ?_ (fun b' hb' => .inl hb')
  · simp only [HL.block, ne_eq, Option.some.injEq] at hne
    simp [Array.getElem?_setIfInBounds, hne]
  · simp [HL.holds, hlt]

/-! ### a new base: what is only read from here on is old -/
theorem ret_rebase {R : Value → List HL → Prop} {w1 : World} {S1 : List Nat} {l1 : List HL} (ho : Own w0 S w1 l1) (hS : ∀ b ∈ S1, b ∈ S ∨ w0.heap.size ≤ b) {en : Ending} {w' : World} (h : RetR w1 S1 R en w') : RetR w0 S R en w' := by
  obtain ⟨v, lr, h1, h2, h3⟩ := h
  refine ⟨v, lr, h1, h2, ?_⟩
  have := ho.called h3 (ho.pick [] (by decide)) hS (by simp [pick])
  simpa [pick] using this
theorem gk_rebase {fn : Func} {c : Code} {R : Value → List HL → Prop} (ic : List Nat) (hi : ic.Nodup)
    (h : ∀ w1, Own w0 S w1 l → GK n (c.wp P (bodyPost P fn (RetR w1 ((pick ic l).filterMap HL.block) R))) e w1 ((pick ic l).filterMap HL.block) (pick ic l)) :
    GK n (c.wp P (bodyPost P fn (RetR w0 S R))) e w0 S l := fun a w hs ho => by
  have hp := ho.pick ic hi
  have hS : ∀ b ∈ (pick ic l).filterMap HL.block, b ∈ S ∨ w0.heap.size ≤ b := fun b hb => by
    obtain ⟨x, hx, hxb⟩ := List.mem_filterMap.1 hb
    exact hp.place x hx b hxb
  have hown : Own w ((pick ic l).filterMap HL.block) w (pick ic l) := ⟨rfl, rfl, rfl, Nat.le_refl _, fun _ _ _ => rfl, hp.holds, fun x hx b hb => .inl (List.mem_filterMap.2 ⟨x, hx, hb⟩), hp.nodup⟩
  refine Code.wp_mono (fun x a' w' hq => ?_) (h w ho a w hs hown)
  cases x with
  | normal => obtain ⟨h1, v, h2, h3⟩ := hq; exact ⟨h1, v, h2, ret_rebase ho hS h3⟩
  | ret => obtain ⟨h1, v, h2, h3⟩ := hq; exact ⟨h1, v, h2, ret_rebase ho hS h3⟩
  | panic ch => obtain ⟨h1, h3⟩ := hq; exact ⟨h1, ret_rebase ho hS h3⟩
  | outgrown => exact ret_rebase ho hS hq
  | exit id => exact hq.elim
  | goto id => exact hq.elim

theorem filterMap_ext {α β : Type} {f g : α → Option β} : ∀ {xs : List α}, (∀ x ∈ xs, f x = g x) → xs.filterMap f = xs.filterMap g
  | [], _ => rfl
  | x :: xs, h => by
    rw [List.filterMap_cons, List.filterMap_cons, h x (by simp), filterMap_ext fun y hy => h y (List.mem_cons_of_mem _ hy)]
theorem filterMap_range_get {α : Type} : ∀ (T : List α), (List.range T.length).filterMap (fun i => T[i]?) = T
  | [] => rfl
  | t :: T => by
    rw [List.length_cons, List.range_succ_eq_map, List.filterMap_cons]
    simp only [List.getElem?_cons_zero, List.filterMap_map]
    congr 1
    have := filterMap_range_get T
    simpa [Function.comp_def] using this
/-! ### a tail of heaplets that is not listed -/
theorem sub_tail {A B T : List HL} (idx : List Nat) (m : Nat) (hi : idx.Nodup) (hlt : ∀ i ∈ idx, i < m) (hm : B.length = m) (hA : A = pick idx B) : Sub (A ++ T) (B ++ T) := by
  subst hm
  refine ⟨idx ++ (List.range T.length).map (· + B.length), ?_, ?_⟩
  · rw [List.nodup_append]
    refine ⟨hi, ?_, fun a ha b hb e => ?_⟩
    · refine List.Pairwise.map _ (fun a b hab => ?_) List.nodup_range
      omega
    · obtain ⟨q, _, rfl⟩ := List.mem_map.1 hb
      have := hlt a ha
      omega
  · subst hA
    unfold pick
    rw [List.filterMap_append]
    congr 1
    · refine filterMap_ext fun i hi2 => ?_
      rw [List.getElem?_append_left (hlt i hi2)]
    · rw [List.filterMap_map]
      have h2 : ((fun i => (B ++ T)[i]?) ∘ (· + B.length)) = fun i => T[i]? := funext fun i => by
        simp [List.getElem?_append_right (show B.length ≤ i + B.length by omega)]
      rw [h2, filterMap_range_get]
theorem gx_ret1S {fn : Func} {R : Value → List HL → Prop} {t : Tmp} {v : Value} {x : Exit} {l' : List HL} (hx : x = .ret ∨ x = .normal) (hr : fn.results = #[.tmp t]) (hv : e.get t = some v) (hs : Sub l' l) (h : R v l') : GK n (bodyPost P fn (RetR w0 S R) x) e w0 S l := by
  obtain ⟨idx, hi, rfl⟩ := hs
  exact gx_ret1 hx hr hv idx hi h
end
end Go.Gv

set_option autoImplicit false
set_option linter.unusedVariables false
namespace Go.Gv
open Go.RowKit
def putAt : List Value → Nat → List Value → List Value
  | xs, _, [] => xs
  | xs, off, v :: vs => putAt (xs.set off v) (off + 1) vs
theorem putAt_len : ∀ (vs xs : List Value) (off : Nat), (putAt xs off vs).length = xs.length
  | [], _, _ => rfl
  | v :: vs, xs, off => by rw [putAt, putAt_len vs]; simp
theorem putAt_eq : ∀ (vs xs : List Value) (off : Nat), off + vs.length ≤ xs.length → putAt xs off vs = xs.take off ++ (vs ++ xs.drop (off + vs.length))
  | [], xs, off, _ => by simp [putAt]
  | v :: vs, xs, off, h => by
    simp only [List.length_cons] at h
    rw [putAt, putAt_eq vs (xs.set off v) (off + 1) (by simp; omega)]
    have h1 : off < xs.length := by omega
    rw [List.drop_set_of_lt (by omega), List.take_succ_eq_append_getElem (by simpa using h1), List.take_set_of_le (Nat.le_refl _)]
    simp [Nat.add_comm, Nat.add_left_comm, Nat.add_assoc]
theorem putAt_flat {α : Type} (f : α → List Value) (m : Nat) (hf : ∀ x, (f x).length = m) (zs : List α) (k : Nat) (x : α) (h : k < zs.length) : putAt (zs.flatMap f) (k * m) (f x) = (zs.set k x).flatMap f := by
  have h2 : (k + 1) * m ≤ zs.length * m := Nat.mul_le_mul_right m h
  rw [putAt_eq _ _ _ (by rw [flat_len f m hf, hf]; rw [Nat.add_mul, Nat.one_mul] at h2; exact h2), flat_set f m hf zs k x h, hf]
section
variable {P : Program} {n : Nat} {Q : Exit → Act → World → Prop} {K : Act → World → Prop} {e : Env} {w0 : World} {S : List Nat} {l : List HL} {d : Nat} {dst : Option Nat} {ty : TypeId} {pos : String} {aft : Array Edge} {gd : Option (Nat × Bool)}
theorem run_storeOne' {b off : Nat} {v u : Value} {w : World} (hv : v.oneCell' = true) (hc : w.cell? ⟨b, off, none⟩ = some u) (hf : w.frozen? ⟨b, off, none⟩ = false) : (store ⟨b, off, none⟩ v).run P w = .ok () (w.setCell ⟨b, off, none⟩ v) := by
  cases v <;> simp [Value.oneCell'] at hv <;> simp [store, Sem.run, hc, hf]
theorem run_storeCellsRow : ∀ (vs : List Value) (j : Nat) {E : TypeId} {sz i m cap : Nat} {r : Option Nat} {xs : List Value} {l : List HL} {w : World} {b off : Nat}, Own w0 S w l → l[i]? = some (.row E sz r m cap xs) → b = r.getD 0 → off + j + vs.length ≤ xs.length → vs.all (·.oneCell') = true →
    ∃ w', (storeCells ⟨b, off, none⟩ vs j).run P w = .ok () w' ∧ Own w0 S w' (l.set i (.row E sz r m cap (putAt xs (off + j) vs)))
  | [], j, E, sz, i, m, cap, r, xs, l, w, b, off, ho, hi, hb, hl, hv => ⟨w, by simp [storeCells], by rw [putAt, set_self hi]; exact ho⟩
  | v :: vs, j, E, sz, i, m, cap, r, xs, l, w, b, off, ho, hi, hb, hl, hv => by
    subst hb
    simp only [List.length_cons] at hl
    simp only [List.all_cons, Bool.and_eq_true] at hv
    have hoff : off + j < xs.length := by omega
    obtain ⟨hf, ho2⟩ := ho.storeRow hi hoff v
    have hc := ho.rowCell i hi (List.getElem?_eq_getElem hoff)
    have h1 := run_storeOne' (P := P) hv.1 hc hf
    have hi2 : (l.set i (.row E sz r m cap (xs.set (off + j) v)))[i]? = some (.row E sz r m cap (xs.set (off + j) v)) := getElem?_set_self' hi
    obtain ⟨w', h3, h4⟩ := run_storeCellsRow vs (j + 1) (b := r.getD 0) (off := off) ho2 hi2 rfl (by simp; omega) hv.2
    refine ⟨w', ?_, ?_⟩
    · rw [storeCells]
      simp only [Sem.run_bind, Addr.add_lit, h1, Result.andThen_ok, h3]
    · rw [putAt]
      rw [List.set_set] at h4
      exact h4
/-- a struct is stored in a row -/
theorem op_storeRowAgg (i : Nat) {t E : TypeId} {z : Value} {size bytes sz : Nat} {x y : Operand} {r : Option Nat} {m cap off : Nat} {xs vs : List Value} (ht : TyF P t z size bytes) (hx : e.ev x = some (.pointer (some ⟨r.getD 0, off, none⟩))) (hy : e.ev y = some (.agg vs.toArray))
    (hv : vs.all (·.oneCell') = true) (hl : Nat.beq vs.length size = true) (hi : l[i]? = some (.row E sz r m cap xs)) (hoff : off + size ≤ xs.length) {l' : List HL} (hl' : l.set i (.row E sz r m cap (putAt xs off vs)) = l') (k : GK n K e w0 S l') :
    GK n (fun a w => Oper.wp P ⟨none, .store t x y, ty, pos, aft, gd⟩ a w K Q) e w0 S l := fun a w hs ho => by
  subst hl'
  have hl2 := Nat.eq_of_beq_eq_true hl
  obtain ⟨w', h1, h2⟩ := run_storeCellsRow (P := P) vs 0 (b := r.getD 0) (off := off) ho hi rfl (by omega) hv
  have hr2 : (execOp a.eval ⟨none, .store t x y, ty, pos, aft, gd⟩).run P w = .ok .skip w' := by
    simp [execOp, hs.ev hx, hs.ev hy, Instr.storeAt, Instr.sureAddr, storeVar, Value.cells, ht.runSize, hl2, h1]
  exact wp_skip' rfl hr2 (k _ _ hs h2)
/-- the cells of an element of a row -/
theorem cs_rowN (i : Nat) {E : TypeId} {sz : Nat} {a : Option Nat} {m cap : Nat} {xs cs : List Value} {off k : Nat} (hi : l[i]? = some (.row E sz a m cap xs)) (hcs : (xs.drop (off * k)).take k = cs) : ∀ w, Own w0 S w l → Cells w ⟨a.getD 0, (off : Int).toNat * k, none⟩ cs := cs_row i hi hcs
theorem cs_slN {a : Option Addr} {m size off k : Nat} {cells cs : List Value} (h : OldSl w0 S a m size cells) (hcs : (cells.drop (off * k)).take k = cs) : ∀ w, Own w0 S w l → Cells w ((adr a).add ((off : Int).toNat * k)) cs := cs_sl h hcs
/-- a row that is one's own and not nil: its place needs no memory -/
theorem rd_indexS {t E : TypeId} {z : Value} {size bytes : Nat} {x y : Operand} {g m cap : Nat} {k : IntKind} {i : Int} (hu : P.underlying t = some (.slice E)) (ht : TyF P E z size bytes) (hx : e.ev x = some (.slice (rowA (some g)) m cap)) (hy : e.ev y = some (.int k i)) (h0 : 0 ≤ i) (h1 : i < m) :
    Rd P n e w0 S l ⟨dst, .indexAddr t x y, ty, pos, aft, gd⟩ (.pointer (some ⟨(some g).getD 0, i.toNat * size, none⟩)) := by
  have h := rd_index (P := P) (n := n) (w0 := w0) (S := S) (l := l) (dst := dst) (ty := ty) (pos := pos) (aft := aft) (gd := gd) hu ht hx hy h0 h1
  rw [Addr.add_lit, Nat.zero_add] at h
  exact h
end
end Go.Gv

set_option autoImplicit false
namespace Go.Gv
open Go.RowKit
section
variable {P : Program} {n : Nat} {Q : Exit → Act → World → Prop} {K : Act → World → Prop} {e : Env} {w0 : World} {S : List Nat} {l : List HL} {d : Nat} {dst : Option Nat} {ty : TypeId} {pos : String} {aft : Array Edge} {gd : Option (Nat × Bool)}
theorem op_storeRowP (i : Nat) {t E : TypeId} {z : Value} {size bytes sz : Nat} {x y : Operand} {r : Option Nat} {m cap off : Nat} {xs ys vs : List Value} (ht : TyF P t z size bytes) (hx : e.ev x = some (.pointer (some ⟨r.getD 0, off, none⟩))) (hy : e.ev y = some (.agg vs.toArray))
    (hv : vs.all (·.oneCell') = true) (hl : Nat.beq vs.length size = true) (hi : l[i]? = some (.row E sz r m cap xs)) (hoff : off + size ≤ xs.length) (hp : putAt xs off vs = ys) {l' : List HL} (hl' : l.set i (.row E sz r m cap ys) = l') (k : GK n K e w0 S l') :
    GK n (fun a w => Oper.wp P ⟨none, .store t x y, ty, pos, aft, gd⟩ a w K Q) e w0 S l := by
  subst hp
  exact op_storeRowAgg i ht hx hy hv hl hi hoff hl' k
theorem op_storeRowE (i : Nat) {t E : TypeId} {z : Value} {bytes sz : Nat} {x y : Operand} {r : Option Nat} {m cap off : Nat} {xs ys : List Value} {v : Value} (ht : TyF P t z 1 bytes) (hx : e.ev x = some (.pointer (some ⟨r.getD 0, off, none⟩))) (hy : e.ev y = some v)
    (hv : v.oneCell' = true) (hi : l[i]? = some (.row E sz r m cap xs)) (hoff : off < xs.length) (hp : xs.set off v = ys) {l' : List HL} (hl' : l.set i (.row E sz r m cap ys) = l') (k : GK n K e w0 S l') :
    GK n (fun a w => Oper.wp P ⟨none, .store t x y, ty, pos, aft, gd⟩ a w K Q) e w0 S l := by
  subst hp
  exact op_storeRow i ht hx hy hv hi hoff hl' k
end
end Go.Gv

set_option autoImplicit false
set_option linter.unusedVariables false
namespace Go.Gv
open Go.RowKit
theorem sub_rot (A B : List HL) : Sub (B ++ A) (A ++ B) := by
  refine ⟨(List.range B.length).map (· + A.length) ++ List.range A.length, ?_, ?_⟩
  · rw [List.nodup_append]
    refine ⟨List.Pairwise.map _ (fun a b hab => by omega) List.nodup_range, List.nodup_range, fun a ha b hb e => ?_⟩
    obtain ⟨q, _, rfl⟩ := List.mem_map.1 ha
    have := List.mem_range.1 hb
    omega
  · unfold pick
    rw [List.filterMap_append]
    congr 1
    · rw [List.filterMap_map]
      have h2 : ((fun i => (A ++ B)[i]?) ∘ (· + A.length)) = fun i => B[i]? := funext fun i => by
        simp [List.getElem?_append_right (show A.length ≤ i + A.length by omega)]
      rw [h2, filterMap_range_get]
    · refine (filterMap_range_get A).symm.trans (filterMap_ext fun i hi => ?_)
      rw [List.getElem?_append_left (List.mem_range.1 hi)]
section
variable {P : Program} {n : Nat} {K : Act → World → Prop} {e : Env} {w0 : World} {S : List Nat} {l l' : List HL}
theorem gk_sub (hl : Sub l' l) (h : GK n K e w0 S l') : GK n K e w0 S l := fun a w hs ho => h a w hs (ho.sub hl)
end
section
variable {P : Program} {n : Nat} {ops : Array Oper} {e : Env} {w0 : World} {S : List Nat} {l lc : List HL} {z : Bool} {h0 f : Nat} {QN : Act → World → Prop} {listed : Array Bool}
theorem ga_three {o1 o2 o3 : Oper} (i1 i2 i3 : Nat) (l1 l2 l3 : Array Bool) (hi1 : ops[i1]? = some o1) (hi2 : ops[i2]? = some o2) (hi3 : ops[i3]? = some o3) (hg1 : o1.guard = none) (hg2 : o2.guard = none) (hg3 : o3.guard = none) (hB : decide (Region.ready .any ops listed = [i1, i2, i3]) = true) (hl1 : listed.setIfInBounds i1 true = l1) (hl2 : listed.setIfInBounds i2 true = l2) (hl3 : listed.setIfInBounds i3 true = l3) (hsub : (z || !listed.getD h0 true) = false ∨ Sub lc l)
    (k1 : GK n (fun a w => Oper.wp P o1 a w (wpAnyE P .any ops (IO w0 S lc) z h0 (onlyN QN) f l1) (onlyN QN)) e w0 S l) (k2 : GK n (fun a w => Oper.wp P o2 a w (wpAnyE P .any ops (IO w0 S lc) z h0 (onlyN QN) f l2) (onlyN QN)) e w0 S l) (k3 : GK n (fun a w => Oper.wp P o3 a w (wpAnyE P .any ops (IO w0 S lc) z h0 (onlyN QN) f l3) (onlyN QN)) e w0 S l) : GK n (wpAnyE P .any ops (IO w0 S lc) z h0 (onlyN QN) (f + 1) listed) e w0 S l := fun a w hs ho w' hb => by
  subst hl1; subst hl2; subst hl3
  have hB' := of_decide_eq_true hB
  refine ⟨fun hz => (ho.ext hb).sub (sub_of hsub hz), fun h => (by rw [hB'] at h; cases h), fun j hj => ?_⟩
  rw [hB'] at hj
  have : j = i1 ∨ j = i2 ∨ j = i3 := by simpa using hj
  rcases this with rfl | rfl | rfl
  · unfold wpOp
    simp only [hi1]
    rw [if_pos (by simp [Region.wanted, hg1])]
    exact .inl (k1 a w' hs (ho.ext hb))
  · unfold wpOp
    simp only [hi2]
    rw [if_pos (by simp [Region.wanted, hg2])]
    exact .inl (k2 a w' hs (ho.ext hb))
  · unfold wpOp
    simp only [hi3]
    rw [if_pos (by simp [Region.wanted, hg3])]
    exact .inl (k3 a w' hs (ho.ext hb))
end
end Go.Gv

set_option autoImplicit false
set_option linter.unusedVariables false
namespace Go.Gv
open Go.RowKit
/-! ## a call that turns a tail of heaplets -/
theorem pick_tail (A T : List HL) : pick ((List.range T.length).map (· + A.length)) (A ++ T) = T := by
  unfold pick
  rw [List.filterMap_map]
  have h2 : ((fun i => (A ++ T)[i]?) ∘ (· + A.length)) = fun i => T[i]? := funext fun i => by
    simp [List.getElem?_append_right (show A.length ≤ i + A.length by omega)]
  rw [h2, filterMap_range_get]
theorem pick_head (A T : List HL) : pick (List.range A.length) (A ++ T) = A := by
  unfold pick
  refine (filterMap_ext fun i hi => ?_).trans (filterMap_range_get A)
  rw [List.getElem?_append_left (List.mem_range.1 hi)]
section
variable {P : Program} {n : Nat} {Q : Exit → Act → World → Prop} {K : Act → World → Prop} {e : Env} {w0 : World} {S : List Nat} {l : List HL} {d : Nat} {ty : TypeId} {pos : String} {aft : Array Edge} {gd : Option (Nat × Bool)}
theorem op_callT (A T : List HL) {F : FuncId} {vf vc : List Value} {x : Operand} {xs : List Operand} {at_ : Array TypeId} {vs : List Value} {Sc : List Nat} {R : Value → List HL → Prop} (hl : l = A ++ T) (hd : Nat.ble n d = false) (hx : e.ev x = some (.func (.func F) vf.toArray vc.toArray)) (hxs : e.evs xs = some vs)
    (hcall : ∀ args w, (callFunc F args).run P w = .ok (.enter F args) w) (hSc : Sc = T.filterMap HL.block)
    (hspec : ∀ w, Own w0 S w (A ++ T) → Own w Sc w T → Sp P F (vf ++ vs ++ vc) w Sc R) (k : ∀ v T', R v T' → GK n K ((d, v) :: e) w0 S (A ++ T')) :
    GK n (fun a w => Oper.wp P ⟨some d, .call { callee := .value x, args := xs.toArray, argTypes := at_ }, ty, pos, aft, gd⟩ a w K Q) e w0 S l := by
  subst hl
  refine op_callM ((List.range T.length).map (· + A.length)) (List.range A.length) hd hx hxs hcall ?_ (by rw [pick_tail]; exact hSc) (fun w ho hc => hspec w ho (by rw [pick_tail] at hc; exact hc)) (fun v T' hR => ?_)
  · rw [List.nodup_append]
    refine ⟨List.Pairwise.map _ (fun a b hab => by omega) List.nodup_range, List.nodup_range, fun a ha b hb e => ?_⟩
    obtain ⟨q, _, rfl⟩ := List.mem_map.1 ha
    have := List.mem_range.1 hb
    omega
  · rw [pick_head]
    exact gk_sub (sub_rot T' A) (k v T' hR)
end
section
variable {P : Program} {n : Nat} {e : Env} {w0 : World} {S : List Nat} {l l' : List HL} {fn : Func} {R : Value → List HL → Prop}
theorem gx_retV1S {r : ResultVar} {v : Value} {x : Exit} (hx : x = .ret ∨ x = .normal) (hr : fn.results = #[r]) (h1 : RVal P n e w0 S l r v) (hs : Sub l' l) (h : R v l') : GK n (bodyPost P fn (RetR w0 S R) x) e w0 S l := by
  obtain ⟨idx, hi, rfl⟩ := hs
  exact gx_retV1 hx hr h1 idx hi h
end
section
variable {w0 w : World} {S : List Nat} {l : List HL}
theorem OldSl.atSub {a : Option Addr} {m size : Nat} {cells : List Value} {Sc : List Nat} (h : OldSl w0 S a m size cells) (ho : Own w0 S w l) (hs : ∀ b ∈ Sc, b ∈ S) : OldSl w Sc a m size cells :=
  ⟨h.len, h.isSome, (h.at ho).cells, fun hm hb => h.out hm (hs _ hb)⟩
theorem Cells.atS {ad : Addr} {cs : List Value} (h : Cells w0 ad cs) (ho : Own w0 S w l) (hS : ad.block ∉ S) : Cells w ad cs := fun j v hv => ho.cellOld (h j v hv) (by rw [block_add]; exact hS)
/-- what is owned is not among the heaplets of a callee -/
theorem Own.rowSlT {A T : List HL} (ho : Own w0 S w (A ++ T)) (i : Nat) {E : TypeId} {sz : Nat} {r : Option Nat} {m cap : Nat} {xs : List Value} (hi : A[i]? = some (.row E sz r m cap xs)) : OldSl w (T.filterMap HL.block) (rowA r) m sz xs := by
  have hlt : i < A.length := (List.getElem?_eq_some_iff.1 hi).1
  have hi2 : (A ++ T)[i]? = some (.row E sz r m cap xs) := by rw [List.getElem?_append_left hlt]; exact hi
  have h := ho.rowSl i hi2
  refine ⟨h.len, h.isSome, h.cells, fun hm hb => ?_⟩
  have h2 := h.isSome hm
  cases r with
  | none => cases h2
  | some g =>
    obtain ⟨y, hy, hyb⟩ := List.mem_filterMap.1 hb
    obtain ⟨j, hj⟩ := List.getElem?_of_mem hy
    have hj2 : (A ++ T)[j + A.length]? = some y := by rw [List.getElem?_append_right (by omega)]; simpa using hj
    have := nodup_inj ho.nodup hi2 hj2 (b := g) rfl hyb
    omega
theorem Own.blkOutT {A T : List HL} (ho : Own w0 S w (A ++ T)) (i : Nat) {b : Nat} {cs : List Value} {t : TypeId} (hi : A[i]? = some (.blk b cs t)) : b ∉ T.filterMap HL.block := by
  have hlt : i < A.length := (List.getElem?_eq_some_iff.1 hi).1
  have hi2 : (A ++ T)[i]? = some (.blk b cs t) := by rw [List.getElem?_append_left hlt]; exact hi
  intro hb
  obtain ⟨y, hy, hyb⟩ := List.mem_filterMap.1 hb
  obtain ⟨j, hj⟩ := List.getElem?_of_mem hy
  have hj2 : (A ++ T)[j + A.length]? = some y := by rw [List.getElem?_append_right (by omega)]; simpa using hj
  have := nodup_inj ho.nodup hi2 hj2 (b := b) rfl hyb
  omega
theorem OldSl.atTail {A T : List HL} {a : Option Addr} {m size : Nat} {cells : List Value} (h : OldSl w0 [] a m size cells) (ho : Own w0 [] w (A ++ T)) (hs : 0 < size) : OldSl w (T.filterMap HL.block) a m size cells :=
  h.atS ho hs (fun b hb => by
    obtain ⟨y, hy, hyb⟩ := List.mem_filterMap.1 hb
    rcases ho.place y (List.mem_append.2 (.inr hy)) b hyb with h | h
    · cases h
    · exact h)
end
end Go.Gv

set_option autoImplicit false
set_option linter.unusedVariables false
namespace Go.Gv
open Go.RowKit
/-! ## bytes -/
abbrev u8V (z : Nat) : Value := .int .u8 (z : Int)
theorem get_u8n {zs : List Nat} {k z : Nat} (h : zs[k]? = some z) : (zs.map u8V)[k]? = some (u8V z) := by rw [List.getElem?_map, h]; rfl
theorem u8_one (zs : List Nat) : ∀ u ∈ zs.map u8V, u.oneCell' = true := fun u hu => by
  obtain ⟨z, _, rfl⟩ := List.mem_map.1 hu; rfl
section
variable {P : Program} {n : Nat} {e : Env} {w0 : World} {S : List Nat} {l : List HL} {dst : Option Tmp} {ty : TypeId} {pos : String} {aft : Array Edge} {gd : Option (Nat × Bool)} {x y : Operand} {t ty' : TypeId}
theorem wrapu8_ok {z : Int} (h1 : 0 ≤ z) (h2 : z < 256) : IntKind.u8.wrap z = z := by
  unfold IntKind.wrap
  simp only [IntKind.signed, IntKind.bits, Bool.false_and, if_false, Bool.false_eq_true]
  exact Int.emod_eq_of_lt h1 (by simpa using h2)
theorem bits_u8 (a b : Nat) (ha : a < 256) (hb : b < 256) (f : Nat → Nat → Nat) (g : (k : Nat) → BitVec k → BitVec k → BitVec k) (hg : ∀ x y : BitVec 8, (g 8 x y).toNat = f x.toNat y.toNat) (hf : f a b < 256) :
    IntKind.u8.wrap ((g 8 (BitVec.ofInt 8 (a : Int)) (BitVec.ofInt 8 (b : Int))).toNat : Int) = (f a b : Nat) := by
  have e1 : (BitVec.ofInt 8 (a : Int)).toNat = a := by simp; omega
  have e2 : (BitVec.ofInt 8 (b : Int)).toNat = b := by simp; omega
  rw [hg, e1, e2]
  exact wrapu8_ok (by omega) (by omega)
theorem rd_and8 {a b : Nat} (hx : e.ev x = some (.int .u8 a)) (hy : e.ev y = some (.int .u8 b)) (ha : a < 256) (hb : b < 256) : Rd P n e w0 S l ⟨dst, .binOp .and t x y ty', ty, pos, aft, gd⟩ (.int .u8 ((a &&& b : Nat) : Int)) :=
  rd_bin hx hy (by decide) fun w => by
    have := bits_u8 a b ha hb (· &&& ·) (fun _ x y => x &&& y) (fun _ _ => BitVec.toNat_and ..) (Nat.lt_of_le_of_lt Nat.and_le_left ha)
    exact congrArg (fun z => Result.ok (Value.int .u8 z) w) this
theorem rd_or8 {a b : Nat} (hx : e.ev x = some (.int .u8 a)) (hy : e.ev y = some (.int .u8 b)) (ha : a < 256) (hb : b < 256) : Rd P n e w0 S l ⟨dst, .binOp .or t x y ty', ty, pos, aft, gd⟩ (.int .u8 ((a ||| b : Nat) : Int)) :=
  rd_bin hx hy (by decide) fun w => by
    have := bits_u8 a b ha hb (· ||| ·) (fun _ x y => x ||| y) (fun _ _ => BitVec.toNat_or ..) (Nat.or_lt_two_pow (n := 8) ha hb)
    exact congrArg (fun z => Result.ok (Value.int .u8 z) w) this
/-! ## parts of slices -/
theorem rd_slice2 {E : TypeId} {z : Value} {size bytes : Nat} {u : Operand} {a : Option Addr} {m cap : Nat} {k k2 : IntKind} {i j : Int} (hu : P.underlying t = some (.slice E)) (ht : TyF P E z size bytes) (hx : e.ev x = some (.slice a m cap)) (hy : e.ev y = some (.int k i)) (hz : e.ev u = some (.int k2 j)) (h0 : 0 ≤ i) (h1 : i ≤ j) (h2 : j ≤ cap) :
    Rd P n e w0 S l ⟨dst, .slice t x (some y) (some u) none, ty, pos, aft, gd⟩ (.slice (subA a cap i.toNat size) (j.toNat - i.toNat) (cap - i.toNat)) :=
  fun ac w hs ho => by
    have e1 : (Instr.sliceBound (.int k i) j.toNat .sliceB).run P w = .ok i.toNat w := sliceBound_ok h0 (by omega)
    have e2 : (Instr.sliceBound (.int k2 j) cap .sliceAcap).run P w = .ok j.toNat w := sliceBound_ok (by omega) h2
    simp [execOp, hs.ev hx, hs.ev hy, hs.ev hz, Instr.sliceAt, Instr.slice, Instr.sliceBounds, run_underlying hu, e1, e2, ht.runSize, subA]
theorem rd_slice3 {E : TypeId} {z : Value} {size bytes : Nat} {u : Operand} {a : Option Addr} {m cap : Nat} {k k2 : IntKind} {i j : Int} (hu : P.underlying t = some (.slice E)) (ht : TyF P E z size bytes) (hx : e.ev x = some (.slice a m cap)) (hy : e.ev y = some (.int k i)) (hz : e.ev u = some (.int k2 j)) (h0 : 0 ≤ i) (h1 : i ≤ j) (h2 : j ≤ cap) :
    Rd P n e w0 S l ⟨dst, .slice t x none (some y) (some u), ty, pos, aft, gd⟩ (.slice a i.toNat j.toNat) :=
  fun ac w hs ho => by
    have e1 : (Instr.sliceBound (.int k i) j.toNat .slice3B).run P w = .ok i.toNat w := sliceBound_ok h0 (by omega)
    have e2 : (Instr.sliceBound (.int k2 j) cap .slice3Acap).run P w = .ok j.toNat w := sliceBound_ok (by omega) h2
    have e3 : (if j.toNat = 0 then a else a.map (·.add (0 * size))) = a := by
      split
      · rfl
      · cases a <;> simp [Addr.add]
    simp [execOp, hs.ev hx, hs.ev hy, hs.ev hz, Instr.sliceAt, Instr.slice, Instr.sliceBounds, run_underlying hu, e1, e2, ht.runSize]
    simpa using e3
/-! ## nil -/
theorem run_equalInSl {E : TypeId} (d : Nat) (hu : P.underlying t = some (.slice E)) (a : Option Addr) (m c m2 c2 : Nat) (w : World) : (Op.equalIn (d + 1) t (.slice a m c) (.slice none m2 c2)).run P w = .ok a.isNone w := by
  simp only [Op.equalIn, Sem.run_bind, run_underlying hu, Result.andThen_ok]
  cases a <;> rfl
theorem run_equalInPt {E : TypeId} (d : Nat) (hu : P.underlying t = some (.pointer E)) (a : Option Addr) (w : World) : (Op.equalIn (d + 1) t (.pointer a) (.pointer none)).run P w = .ok a.isNone w := by
  simp only [Op.equalIn, Sem.run_bind, run_underlying hu, Result.andThen_ok]
  cases a <;> rfl
theorem rd_eqlNilSl {E : TypeId} {a : Option Addr} {m c m2 c2 : Nat} (hgt : P.eqGuardType P.depth t = false) (hu : P.underlying t = some (.slice E)) (hx : e.ev x = some (.slice a m c)) (hy : e.ev y = some (.slice none m2 c2)) : Rd P n e w0 S l ⟨dst, .binOp .eql t x y ty', ty, pos, aft, gd⟩ (.bool a.isNone) :=
  fun ac w hs ho => by
    have h := run_equalInSl (P := P) 9999 hu a m c m2 c2 w
    have h2 : (Op.equal t (.slice a m c) (.slice none m2 c2)).run P w = .ok a.isNone w := h
    simp [execOp, hs.ev hx, hs.ev hy, eqGuard, binOp, hgt, h2]
theorem rd_eqlNilPt {E : TypeId} {a : Option Addr} (hgt : P.eqGuardType P.depth t = false) (hu : P.underlying t = some (.pointer E)) (hx : e.ev x = some (.pointer a)) (hy : e.ev y = some (.pointer none)) : Rd P n e w0 S l ⟨dst, .binOp .eql t x y ty', ty, pos, aft, gd⟩ (.bool a.isNone) :=
  fun ac w hs ho => by
    have h := run_equalInPt (P := P) 9999 hu a w
    have h2 : (Op.equal t (.pointer a) (.pointer none)).run P w = .ok a.isNone w := h
    simp [execOp, hs.ev hx, hs.ev hy, eqGuard, binOp, hgt, h2]
end
section
variable {P : Program} {n : Nat} {Q : Exit → Act → World → Prop} {K : Act → World → Prop} {e : Env} {w0 : World} {S : List Nat} {l : List HL}
theorem gc_scope {c : Code} (h : GK n (c.wp P (Exit.noGoto Q)) e w0 S l) : GK n ((Code.scope c).wp P Q) e w0 S l := fun a w hs ho => wp_scope_straight (h a w hs ho)
theorem gc_label {id : Nat} (h : GK n (Q .normal) e w0 S l) : GK n ((Code.label id).wp P Q) e w0 S l := fun a w hs ho => wp_label (h a w hs ho)
theorem gx_scope (h : GK n (Q .normal) e w0 S l) : GK n (Exit.noGoto Q .normal) e w0 S l := h
theorem gx_scope_exit {id : Nat} (h : GK n (Q (.exit id)) e w0 S l) : GK n (Exit.noGoto Q (.exit id)) e w0 S l := h
theorem gx_scope_ret (h : GK n (Q .ret) e w0 S l) : GK n (Exit.noGoto Q .ret) e w0 S l := h
end
section
variable {P : Program} {n : Nat} {Q : Exit → Act → World → Prop} {K : Act → World → Prop} {e : Env} {w0 : World} {S : List Nat} {l : List HL} {d : Nat} {ty : TypeId} {pos : String} {aft : Array Edge} {gd : Option (Nat × Bool)}
theorem take_mid {α : Type} (A cs : List α) (o m : Nat) (hm : m ≤ A.length) (hf : o + cs.length ≤ m) : (A.take o ++ cs ++ A.drop (o + cs.length)).take m = (A.take m).take o ++ cs ++ (A.take m).drop (o + cs.length) := by
  have h1 : (A.take m).take o = A.take o := by rw [List.take_take, Nat.min_eq_left (by omega)]
  have h2 : A.drop (o + cs.length) = (A.take m).drop (o + cs.length) ++ A.drop m := by
    conv => lhs; rw [← List.take_append_drop m A]
    rw [List.drop_append_of_le_length (by rw [List.length_take]; omega)]
  rw [h1, h2, ← List.append_assoc]
  exact List.take_left' (by simp; omega)
/-- 'copy' into a part of one's own row -/
theorem op_copyRow (i o : Nat) {t t2 E : TypeId} {z : Value} {bytes : Nat} {x y : Operand} {g m cap dLen dCap sLen sCap : Nat} {xs cs : List Value} {ad : Addr} (hu : P.underlying t = some (.slice E)) (ht : TyF P E z 1 bytes) (hd : Nat.ble n d = false)
    (hx : e.ev x = some (.slice (some ⟨g, o, none⟩) dLen dCap)) (hy : e.ev y = some (.slice (some ad) sLen sCap)) (hi : l[i]? = some (.row E 1 (some g) m cap xs)) (hn : cs.length = Nat.min sLen dLen) (hsrc : ∀ w, Own w0 S w l → Cells w ad cs) (hfit : o + cs.length ≤ m) (h1 : ∀ u ∈ cs, u.oneCell' = true) {l' : List HL} (hl' : l.set i (.row E 1 (some g) m cap (xs.take o ++ cs ++ xs.drop (o + cs.length))) = l')
    (k : GK n K ((d, .int .i64 (cs.length : Int)) :: e) w0 S l') :
    GK n (fun a w => Oper.wp P ⟨some d, .call { callee := .builtin .copy, args := #[x, y], argTypes := #[t, t2] }, ty, pos, aft, gd⟩ a w K Q) e w0 S l := fun a w hs ho => by
  subst hl'
  have hh := ho.holds _ (List.mem_of_getElem? hi)
  obtain ⟨hl, cur, h3, h4, h5, h6, h7⟩ := hh
  obtain ⟨ii, hi1, hi2, hi3, hi4⟩ := ht.ex
  have hsz : (P.info? E).map (·.size) = some 1 := by rw [hi1]; simp [hi3]
  have hr := run_copy_row P w t t2 ty E g o dLen dCap ad sLen sCap cur E cs hu hsz h3 hn (hsrc w ho) (by omega) h1
  have hr2 : (execOp a.eval ⟨some d, .call { callee := .builtin .copy, args := #[x, y], argTypes := #[t, t2] }, ty, pos, aft, gd⟩).run P w = .ok (.value (.int .i64 (cs.length : Int))) (w.setRow g (cur.toList.take o ++ cs ++ cur.toList.drop (o + cs.length)).toArray) := by
    simp [execOp, resolve, invoke, builtin, hs.ev hx, hs.ev hy, hr, goInt]
  have hlt := lt_size h3
  refine wp_value hr2 (k _ _ (hs.put (blt_lt hd) _) ?_)
  refine ho.turn hi rfl rfl rfl (by simp [World.setRow]) (fun b' hb' hne => ?_) ?_ (fun b' hb' => .inl hb')
  · have hne' : b' ≠ g := fun e => hne (by simp [HL.block, e])
    exact setRow_other w g b' _ hne'
  · refine ⟨?_, _, setRow_heap w g cur _ E _ h3, h4, h5, ?_, ?_⟩
    · have : xs.length = m := by rw [hl]; omega
      simp; omega
    · have hc : cur.toList.length = cap := by simp [h6]
      simp; omega
    · have hc : cur.toList.length = cap := by simp [h6]
      rw [← h7, Nat.mul_one]
      exact take_mid cur.toList cs o m (by omega) hfit
end
end Go.Gv

set_option autoImplicit false
set_option linter.unusedVariables false
namespace Go.Gv
open Go.RowKit
section
variable {P : Program} {n : Nat} {e : Env} {w0 : World} {S : List Nat} {l : List HL} {dst : Option Tmp} {ty : TypeId} {pos : String} {aft : Array Edge} {gd : Option (Nat × Bool)} {x y : Operand} {t ty' : TypeId}
theorem bits_u64 (a b : Nat) (ha : a < 2 ^ 64) (hb : b < 2 ^ 64) (f : Nat → Nat → Nat) (g : (k : Nat) → BitVec k → BitVec k → BitVec k) (hg : ∀ x y : BitVec 64, (g 64 x y).toNat = f x.toNat y.toNat) (hf : f a b < 2 ^ 64) :
    IntKind.u64.wrap ((g 64 (BitVec.ofInt 64 (a : Int)) (BitVec.ofInt 64 (b : Int))).toNat : Int) = (f a b : Nat) := by
  have e1 : (BitVec.ofInt 64 (a : Int)).toNat = a := by simp; omega
  have e2 : (BitVec.ofInt 64 (b : Int)).toNat = b := by simp; omega
  rw [hg, e1, e2]
  exact wrap_u64_nat hf
/-- u64, the answer said outright -/
theorem rd_andU {a b c : Nat} (hx : e.ev x = some (.int .u64 a)) (hy : e.ev y = some (.int .u64 b)) (ha : a < 18446744073709551616) (hb : b < 18446744073709551616) (hc : a &&& b = c) : Rd P n e w0 S l ⟨dst, .binOp .and t x y ty', ty, pos, aft, gd⟩ (.int .u64 (c : Int)) := by
  subst hc
  exact rd_bin hx hy (by decide) fun w => by
    have := bits_u64 a b ha hb (· &&& ·) (fun _ x y => x &&& y) (fun _ _ => BitVec.toNat_and ..) (Nat.lt_of_le_of_lt Nat.and_le_left ha)
    exact congrArg (fun z => Result.ok (Value.int .u64 z) w) this
theorem rd_mulU {a b c : Nat} (hx : e.ev x = some (.int .u64 a)) (hy : e.ev y = some (.int .u64 b)) (hc : a * b = c) (h : c < 18446744073709551616) : Rd P n e w0 S l ⟨dst, .binOp .mul t x y ty', ty, pos, aft, gd⟩ (.int .u64 (c : Int)) := by
  have h1 := rd_mulk (P := P) (n := n) (w0 := w0) (S := S) (l := l) (dst := dst) (ty := ty) (pos := pos) (aft := aft) (gd := gd) (t := t) (ty' := ty') hx hy
  rwa [show ((a : Int) * (b : Int)) = ((c : Nat) : Int) by rw [← hc]; push_cast; rfl, wrap_u64_nat h] at h1
theorem rd_addU {a b c : Nat} (hx : e.ev x = some (.int .u64 a)) (hy : e.ev y = some (.int .u64 b)) (hc : a + b = c) (h : c < 18446744073709551616) : Rd P n e w0 S l ⟨dst, .binOp .add t x y ty', ty, pos, aft, gd⟩ (.int .u64 (c : Int)) := by
  have h1 := rd_addk (P := P) (n := n) (w0 := w0) (S := S) (l := l) (dst := dst) (ty := ty) (pos := pos) (aft := aft) (gd := gd) (t := t) (ty' := ty') hx hy
  rwa [show ((a : Int) + (b : Int)) = ((c : Nat) : Int) by rw [← hc]; push_cast; rfl, wrap_u64_nat h] at h1
theorem rd_shrU {a b c : Nat} {yk : IntKind} (hx : e.ev x = some (.int .u64 a)) (hy : e.ev y = some (.int yk b)) (ha : a < 18446744073709551616) (hc : a >>> b = c) : Rd P n e w0 S l ⟨dst, .binOp .shr t x y ty', ty, pos, aft, gd⟩ (.int .u64 (c : Int)) :=
  rd_shift hx hy (.inr rfl) fun w => by
    subst hc
    have h4 : (a : Int).fdiv (2 ^ (min b 64)) = ((a >>> b : Nat) : Int) := by
      rw [Nat.shiftRight_eq_div_pow]
      rcases Nat.le_total b 64 with h | h
      · rw [Nat.min_eq_left h, Int.fdiv_eq_ediv_of_nonneg _ (by exact_mod_cast Nat.zero_le _)]; simp
      · rw [Nat.min_eq_right h, Int.fdiv_eq_ediv_of_nonneg _ (by decide)]
        have e1 : a / 2 ^ b = 0 := Nat.div_eq_of_lt (Nat.lt_of_lt_of_le ha (Nat.le_trans (by decide) (Nat.pow_le_pow_right (by decide) h)))
        rw [e1]
        have : (a : Int) / 2 ^ 64 = ((a / 2 ^ 64 : Nat) : Int) := by simp
        rw [this, Nat.div_eq_of_lt (by omega)]
    simp only [Op.shift, show ¬ ((b : Int) < 0) by omega, if_false, IntKind.bits, Int.toNat_natCast, h4]; rfl
theorem rd_min2N {a b : Nat} {ats : Array TypeId} (hx : e.ev x = some (natV a)) (hy : e.ev y = some (natV b)) :
    Rd P n e w0 S l ⟨dst, .call { callee := .builtin .min, args := #[x, y], argTypes := ats }, ty, pos, aft, gd⟩ (natV (min a b)) :=
  fun a' w hs ho => by
    have e1 : (if (b : Int) < a then (b : Int) else a) = ((min a b : Nat) : Int) := by split <;> omega
    simp [execOp, resolve, invoke, builtin, hs.ev hx, hs.ev hy, Builtin.min_, Builtin.min2]
    simpa using e1
end
section
variable {P : Program} {n : Nat} {Q : Exit → Act → World → Prop} {K : Act → World → Prop} {e : Env} {w0 : World} {S : List Nat} {l : List HL} {d : Nat} {ty : TypeId} {pos : String} {aft : Array Edge} {gd : Option (Nat × Bool)}
/-- 'bytealg.MakeNoZero' -/
theorem op_noZero {F : FuncId} {fn : Func} {p t E : TypeId} {x : Operand} {xs : Array TypeId} {m : Nat} (hf : P.funcs[F]? = some fn) (hname : (fn.name == "runtime.NumGoroutine") = false) (hb : fn.body.isNone = true) (hn : Extern.findNext fn = none) (he : Extern.find fn = some (Extern.BytealgMakeNoZero.makeNoZero #[p] #[t])) (hu : P.underlying t = some (.slice E)) (hd : Nat.ble n d = false)
    (hx : e.ev x = some (natV m)) (hm : m ≤ 1000000000)
    (k : ∀ b cap xs, m ≤ cap → xs.length = m → GK n K ((d, .slice (some ⟨b, 0, none⟩) m cap) :: e) w0 S (.row E 1 (some b) m cap xs :: l)) :
    GK n (fun a w => Oper.wp P ⟨some d, .call { callee := .value (.func F), args := #[x], argTypes := xs }, ty, pos, aft, gd⟩ a w K Q) e w0 S l := fun a w hs ho => by
  obtain ⟨cs, hrun, hle, hmax⟩ := Lib.run_makeNoZero (P := P) w #[p] t E hu m (by omega)
  have hc : (callFunc F #[natV m]).run P w = .ok (.value (.slice (some ⟨w.heap.size, 0, none⟩) m cs.size)) (w.drew.drew.alloc (.cells cs E)) := by
    rw [run_callFunc_extern hf hname hb hn he, hrun]; rfl
  have hr : (execOp a.eval ⟨some d, .call { callee := .value (.func F), args := #[x], argTypes := xs }, ty, pos, aft, gd⟩).run P w = .ok (.value (.slice (some ⟨w.heap.size, 0, none⟩) m cs.size)) (w.drew.drew.alloc (.cells cs E)) := by
    have h1 : a.eval (.func F) = .func (.func F) #[] #[] := rfl
    simp [execOp, resolve, Deferred.ofValue, invoke, h1, hs.ev hx, hc]
  refine wp_value hr (k _ cs.size (cs.toList.take m) hle (by simp; omega) _ _ (hs.put (blt_lt hd) _) ?_)
  have h2 : Own w0 S w.drew.drew l := ho.drew.drew
  have h3 : (w.drew.drew).heap.size = w.heap.size := rfl
  rw [← h3]
  refine h2.alloc (.row E 1 (some w.drew.drew.heap.size) m cs.size (cs.toList.take m)) _ rfl ?_
  have hmx := hmax (by unfold maxLen; omega)
  refine ⟨by simp; omega, cs, heap_alloc_new _ _, hle, hmx, by simp, by simp⟩
end
end Go.Gv

set_option autoImplicit false
set_option linter.unusedVariables false
namespace Go.Gv
open Go.RowKit
section
variable {P : Program} {n : Nat} {e : Env} {w0 : World} {S : List Nat} {l : List HL} {dst : Option Tmp} {ty : TypeId} {pos : String} {aft : Array Edge} {gd : Option (Nat × Bool)} {x y : Operand} {t ty' : TypeId}
theorem wrap_u32_nat {n : Nat} (h : n < 4294967296) : IntKind.u32.wrap (n : Int) = (n : Int) := by
  unfold IntKind.wrap
  simp only [IntKind.signed, IntKind.bits, Bool.false_and, if_false, Bool.false_eq_true]
  exact Int.emod_eq_of_lt (by omega) (by omega)
theorem wrap_u8_nat {n : Nat} (h : n < 256) : IntKind.u8.wrap (n : Int) = (n : Int) := wrapu8_ok (by omega) (by omega)
theorem wrap_i64_nat {n : Nat} (h : n < 9223372036854775808) : IntKind.i64.wrap (n : Int) = (n : Int) := wrap64_ok (by omega) (by omega)
theorem rd_or32 {a b : Nat} (hx : e.ev x = some (.int .u32 a)) (hy : e.ev y = some (.int .u32 b)) (ha : a < 4294967296) (hb : b < 4294967296) : Rd P n e w0 S l ⟨dst, .binOp .or t x y ty', ty, pos, aft, gd⟩ (.int .u32 ((a ||| b : Nat) : Int)) :=
  rd_bin hx hy (by decide) fun w => by
    have e1 : (BitVec.ofInt 32 (a : Int)).toNat = a := by simp; omega
    have e2 : (BitVec.ofInt 32 (b : Int)).toNat = b := by simp; omega
    have h3 : (BitVec.ofInt 32 (a : Int) ||| BitVec.ofInt 32 (b : Int)).toNat = a ||| b := by rw [BitVec.toNat_or, e1, e2]
    have h4 : a ||| b < 4294967296 := Nat.or_lt_two_pow (n := 32) ha hb
    have h5 : IntKind.u32.wrap ((BitVec.ofInt 32 (a : Int) ||| BitVec.ofInt 32 (b : Int)).toNat : Int) = ((a ||| b : Nat) : Int) := by rw [h3]; exact wrap_u32_nat h4
    exact congrArg (fun z => Result.ok (Value.int .u32 z) w) h5
theorem rd_shl32 {a b : Nat} {yk : IntKind} (hx : e.ev x = some (.int .u32 a)) (hy : e.ev y = some (.int yk b)) (hb : b ≤ 32) (ha : a * 2 ^ b < 4294967296) : Rd P n e w0 S l ⟨dst, .binOp .shl t x y ty', ty, pos, aft, gd⟩ (.int .u32 ((a <<< b : Nat) : Int)) :=
  rd_shift hx hy (.inl rfl) fun w => by
    have h1 : min b 32 = b := by omega
    have h2 : ((a : Int) * 2 ^ b) = ((a <<< b : Nat) : Int) := by rw [Nat.shiftLeft_eq]; simp
    have h3 : a <<< b < 4294967296 := by rw [Nat.shiftLeft_eq]; exact ha
    simp only [Op.shift, show ¬ ((b : Int) < 0) by omega, if_false, IntKind.bits, Int.toNat_natCast, h1, h2]
    rw [wrap_u32_nat h3]; rfl
theorem rd_shr32 {a b : Nat} {yk : IntKind} (hx : e.ev x = some (.int .u32 a)) (hy : e.ev y = some (.int yk b)) (ha : a < 4294967296) (hb : b ≤ 32) : Rd P n e w0 S l ⟨dst, .binOp .shr t x y ty', ty, pos, aft, gd⟩ (.int .u32 ((a >>> b : Nat) : Int)) :=
  rd_shift hx hy (.inr rfl) fun w => by
    have h4 : (a : Int).fdiv (2 ^ (min b 32)) = ((a >>> b : Nat) : Int) := by
      rw [Nat.shiftRight_eq_div_pow, Nat.min_eq_left hb, Int.fdiv_eq_ediv_of_nonneg _ (by exact_mod_cast Nat.zero_le _)]; simp
    simp only [Op.shift, show ¬ ((b : Int) < 0) by omega, if_false, IntKind.bits, Int.toNat_natCast, h4]; rfl
end
end Go.Gv

set_option autoImplicit false
set_option linter.unusedVariables false
namespace Go.Gv
open Go.RowKit
theorem heap_freeze {w : World} {b k : Nat} {C : Array Value} {e : TypeId} (h : w.heap[b]? = some (.cells C e (0, 0))) : (w.freeze ⟨b, k, none⟩ 1).heap[b]? = some (.cells C e (k, k + 1)) := by
  have hlt := lt_size h
  have h' : w.heap[b] = .cells C e (0, 0) := by simpa [Array.getElem?_eq_getElem hlt] using h
  unfold World.freeze
  rw [if_neg (by decide)]
  show (w.heap.modify b _)[b]? = _
  rw [Array.getElem?_eq_getElem (by simpa using hlt), Array.getElem_modify_self, h']
  rfl
theorem heap_freeze_other {w : World} {b c k : Nat} (hne : c ≠ b) : (w.freeze ⟨b, k, none⟩ 1).heap[c]? = w.heap[c]? := by
  unfold World.freeze
  rw [if_neg (by decide)]
  show (w.heap.modify b _)[c]? = _
  rw [Array.getElem?_modify]
  rw [if_neg (fun e => hne e.symm)]
theorem objSl {w0 w : World} {S : List Nat} {l : List HL} (ho : Own w0 S w l) (i : Nat) {b m : Nat} {E : TypeId} {fr : Nat × Nat} {xs : List Value} (hm : xs.length = m) (hi : l[i]? = some (.obj b (.cells xs.toArray E fr))) : OldSl w [] (some ⟨b, 0, none⟩) m 1 xs := by
  have hb : w.heap[b]? = some (.cells xs.toArray E fr) := ho.holds _ (List.mem_of_getElem? hi)
  refine ⟨by omega, fun _ => rfl, fun j v hv => ?_, fun _ => by simp⟩
  simp only [adr, Option.getD_some]
  rw [Addr.add_lit, Nat.zero_add]
  simp [World.cell?, hb, hv]
theorem objOut {w0 w : World} {S : List Nat} {l : List HL} (ho : Own w0 S w l) (i : Nat) (ic : List Nat) {b m : Nat} {E : TypeId} {fr : Nat × Nat} {xs : List Value} (hm : xs.length = m) (hi : l[i]? = some (.obj b (.cells xs.toArray E fr))) (hn : i ∉ ic) : OldSl w ((pick ic l).filterMap HL.block) (some ⟨b, 0, none⟩) m 1 xs := by
  have h := objSl ho i hm hi
  refine ⟨h.len, h.isSome, h.cells, fun _ hb => ?_⟩
  obtain ⟨y, hy, hyb⟩ := List.mem_filterMap.1 hb
  simp only [pick, List.mem_filterMap] at hy
  obtain ⟨j, hj, hjy⟩ := hy
  have := nodup_inj ho.nodup hi hjy (b := b) rfl hyb
  subst this
  exact hn hj
section
variable {P : Program} {n : Nat} {Q : Exit → Act → World → Prop} {K : Act → World → Prop} {e : Env} {w0 : World} {S : List Nat} {l : List HL} {d : Nat} {ty : TypeId} {pos : String} {aft : Array Edge} {gd : Option (Nat × Bool)}
/-- '[]byte("..")': the literal's row gets a mark behind its last cell -/
theorem op_convConst (i : Nat) {t E : TypeId} {x : Operand} {b m : Nat} {xs : List Value} (hu : P.underlying t = some (.slice E)) (hE : P.underlying E = some (.int .u8)) (hd : Nat.ble n d = false) (hx : e.ev x = some (.slice (some ⟨b, 0, none⟩) m m)) (hi : l[i]? = some (.row E 1 (some b) m m xs)) {l' : List HL} (hl' : l.set i (.obj b (.cells xs.toArray E (m, m + 1))) = l')
    (k : GK n K ((d, .slice (some ⟨b, 0, none⟩) m m) :: e) w0 S l') :
    GK n (fun a w => Oper.wp P ⟨some d, .convert t t x, ty, pos, aft, gd⟩ a w K Q) e w0 S l := fun a w hs ho => by
  subst hl'
  obtain ⟨h1, cur, h2, h3, h4, h5, h6⟩ := ho.holds _ (List.mem_of_getElem? hi)
  have hcur : cur = xs.toArray := by
    have : cur.toList = xs := by rw [← h6, List.take_of_length_le (by simp [h5])]
    rw [← this]
  subst hcur
  have hsz : xs.length = m := by omega
  have hsh : w.shape? b = some (E, m) := by unfold World.shape?; rw [h2]; simp [hsz]
  have hr : (execOp a.eval ⟨some d, .convert t t x, ty, pos, aft, gd⟩).run P w = .ok (.value (.slice (some ⟨b, 0, none⟩) m m)) (w.freeze ⟨b, m, none⟩ 1) := by
    simp [execOp, hs.ev hx, convert, run_underlying hu, run_underlying hE, markStringish, hsh]
  refine wp_value hr (k _ _ (hs.put (blt_lt hd) _) ?_)
  refine ho.turn hi ?_ ?_ ?_ ?_ (fun b' hb' hne => heap_freeze_other (fun e => hne (by simp [HL.block, e]))) (heap_freeze h2) (fun b' hb' => .inl hb')
  · unfold World.freeze; rw [if_neg (by decide)]
  · unfold World.freeze; rw [if_neg (by decide)]
  · unfold World.freeze; rw [if_neg (by decide)]
  · unfold World.freeze; rw [if_neg (by decide)]; simp
end
section
variable {P : Program} {n : Nat} {e : Env} {w0 : World} {S : List Nat} {l : List HL} {dst : Option Tmp} {ty : TypeId} {pos : String} {aft : Array Edge} {gd : Option (Nat × Bool)} {x y : Operand} {t t2 ty' : TypeId}
def strN (zs : List Nat) : ByteArray := strOfNums (zs.map fun z : Nat => (z : Int))
theorem rd_toStr {E : TypeId} {a : Option Addr} {m c : Nat} {zs : List Nat} (hu : P.underlying t = some (.slice E)) (hE : P.underlying E = some (.int .u8)) (hv : P.underlying t2 = some .string) (hx : e.ev x = some (.slice a m c)) (hsl : ∀ w, Own w0 S w l → OldSl w [] a m 1 (zs.map u8V)) :
    Rd P n e w0 S l ⟨dst, .convert t t2 x, ty, pos, aft, gd⟩ (.string (strN zs)) := fun ac w hs ho => by
  have h := hsl w ho
  have hlen : zs.length = m := by have := h.len; simpa using this
  have h2 : (convert t t2 (.slice a m c)).run P w = .ok (.string (strN zs)) w := by
    cases a with
    | none =>
      have h0 : m = 0 := by
        rcases Nat.eq_zero_or_pos m with h0 | h0
        · exact h0
        · have := h.isSome h0; cases this
      obtain rfl : zs = [] := List.eq_nil_of_length_eq_zero (by omega)
      rw [run_convert_bytes_nil w t E hu hE m c t2 hv]; rfl
    | some ad =>
      have hl : (loadCells ad m).run P w = .ok ((zs.map fun z : Nat => (z : Int)).map (Value.int .u8)).toArray w := by
        have := run_loadCells_list (P := P) w ad (zs.map u8V) (fun j v hv => h.cells j v hv)
        simpa [hlen, Function.comp_def] using this
      rw [run_convert_bytes_string w t t2 E _ m c hu hE hv, run_bytesToString w _ m c _ hl, foldl_push_bytes]
      simp [strN, strOfNums, ByteArray.empty, ByteArray.emptyWithCapacity]
      rfl
  simp [execOp, hs.ev hx, h2]
theorem rd_eqlStr {a b : ByteArray} (hu : P.underlying t = some .string) (hgt : P.eqGuardType P.depth t = false) (hx : e.ev x = some (.string a)) (hy : e.ev y = some (.string b)) : Rd P n e w0 S l ⟨dst, .binOp .eql t x y ty', ty, pos, aft, gd⟩ (.bool (a.toList == b.toList)) := fun ac w hs ho => by
  simp [execOp, hs.ev hx, hs.ev hy, eqGuard, binOp, hgt, Op.stringOp]
end
end Go.Gv
