import Derived.Test.YthcbcdjkfefnlaaGv
import Derived.Shelf.Sort.Plain
import Derived.Shelf.Slices.In.SortNone
import Derived.Scope
import Derived.Laws.CopyRow
import Derived.Lib.MakeNoZero
import Derived.Laws.BytesArg
import Derived.Laws.StructEq
import Derived.Lib.SlBytesConst
import Derived.Maps.RangeRun
/- The engine: maps, parts of slices, bytes, strings, tails of heaplets. -/
set_option linter.unusedSimpArgs false
set_option linter.unusedVariables false
set_option linter.unnecessarySimpa false
set_option autoImplicit false
set_option linter.unusedVariables false
namespace Go.Gv
open Go.RowKit
abbrev intV (z : Int) : Value := .int .i64 z
abbrev natV (z : Nat) : Value := .int .i64 (z : Int)
abbrev boolV (b : Bool) : Value := .bool b
/-- the value is v0, no memory is handed over -/
def RV (v0 : Value) : Value → List HL → Prop := fun v l => v = v0 ∧ l = []
theorem set_self {l : List HL} {i : Nat} {x : HL} (hi : l[i]? = some x) : l.set i x = l := by
  apply List.ext_getElem?
  intro j
  rw [List.getElem?_set]
  split
  · rename_i h; subst h
    split
    · exact hi.symm
    · rename_i h2; simp [List.getElem?_eq_none (by omega : l.length ≤ i)] at hi
  · rfl
theorem snocN (xs : List Nat) (q : Nat) : xs.map natV ++ [natV q] = (xs ++ [q]).map natV := by simp
theorem snoc_len {α : Type} (xs : List α) (q : α) : xs.length + 1 = (xs ++ [q]).length := by simp
theorem setN (ts : List Nat) (k x : Nat) : (ts.map natV).set k (natV x) = (ts.set k x).map natV := by rw [List.map_set]
theorem get_some {α : Type} {xs : List α} {k : Nat} (h : k < xs.length) : ∃ x, xs[k]? = some x := ⟨xs[k], List.getElem?_eq_getElem h⟩
theorem getD_some {α : Type} {d : α} {xs : List α} {k : Nat} {x : α} (h : xs[k]? = some x) : xs.getD k d = x := by simp [List.getD, h]
theorem take_at {α : Type} {xs : List α} {i : Nat} {x : α} (hx : xs[i]? = some x) : xs.take (i + 1) = xs.take i ++ [x] := by
  have h : i < xs.length := (List.getElem?_eq_some_iff.1 hx).1
  rw [List.take_succ_eq_append_getElem h, (List.getElem?_eq_some_iff.1 hx).2]
theorem get_flat {α : Type} (f : α → List Value) (m : Nat) (hf : ∀ x, (f x).length = m) {zs : List α} {k j : Nat} {x : α} (h : zs[k]? = some x) (hj : j < m) {v : Value} (hv : (f x)[j]? = some v) : (zs.flatMap f)[k * m + j]? = some v := by
  have hlt : k < zs.length := (List.getElem?_eq_some_iff.1 h).1
  rw [flat_get f m hf x zs k j hlt hj]
  rw [show zs.getD k x = x from by simp [List.getD, h]]
  exact hv
theorem flat_set {α : Type} (f : α → List Value) (m : Nat) (hf : ∀ x, (f x).length = m) : ∀ (zs : List α) (k : Nat) (x : α), k < zs.length → (zs.set k x).flatMap f = (zs.flatMap f).take (k * m) ++ (f x ++ (zs.flatMap f).drop (k * m + m))
  | [], k, x, h => by simp at h
  | z :: zs, 0, x, _ => by
    have := hf z
    subst this
    simp [List.flatMap_cons]
  | z :: zs, k + 1, x, h => by
    have ih := flat_set f m hf zs k x (by simpa using h)
    have e1 : (k + 1) * m = (f z).length + k * m := by rw [hf, Nat.add_mul, Nat.one_mul, Nat.add_comm]
    rw [List.set_cons_succ, List.flatMap_cons, ih, List.flatMap_cons, e1, List.take_length_add_append, Nat.add_assoc, List.drop_length_add_append, List.append_assoc]
section
variable {P : Program} {n : Nat} {Q : Exit → Act → World → Prop} {K : Act → World → Prop} {e : Env} {w0 : World} {S : List Nat} {l : List HL} {d : Nat} {dst : Option Nat} {ty : TypeId} {pos : String} {aft : Array Edge} {gd : Option (Nat × Bool)}
/-! ### max -/
theorem rd_max2 {x y : Operand} {k : IntKind} {p q : Int} {ats : Array TypeId} (hx : e.ev x = some (.int k p)) (hy : e.ev y = some (.int k q)) :
    Rd P n e w0 S l ⟨dst, .call { callee := .builtin .max, args := #[x, y], argTypes := ats }, ty, pos, aft, gd⟩ (.int k (max p q)) :=
  fun a w hs ho => by
    have e1 : (if q > p then q else p) = max p q := by split <;> omega
    simp [execOp, resolve, invoke, builtin, hs.ev hx, hs.ev hy, Builtin.max_, Builtin.max2]
    exact e1
/-! ### parts of slices -/
theorem sliceBound_ok {P : Program} {w : World} {k : IntKind} {i : Int} {cap : Nat} {b : BoundsCode} (h0 : 0 ≤ i) (h1 : i ≤ cap) : (Instr.sliceBound (.int k i) cap b).run P w = .ok i.toNat w := by
  simp [Instr.sliceBound, asIntOf, h0, h1]
def subA (a : Option Addr) (cap k size : Nat) : Option Addr := if cap = k then a else a.map (·.add (k * size))
theorem rd_sliceLo {t E : TypeId} {z : Value} {size bytes : Nat} {x y : Operand} {a : Option Addr} {m cap : Nat} {k : IntKind} {i : Int} (hu : P.underlying t = some (.slice E)) (ht : TyF P E z size bytes) (hx : e.ev x = some (.slice a m cap)) (hy : e.ev y = some (.int k i)) (h0 : 0 ≤ i) (h1 : i ≤ m) :
    Rd P n e w0 S l ⟨dst, .slice t x (some y) none none, ty, pos, aft, gd⟩ (.slice (subA a cap i.toNat size) (m - i.toNat) (cap - i.toNat)) :=
  fun ac w hs ho => by
    simp [execOp, hs.ev hx, hs.ev hy, Instr.sliceAt, Instr.slice, Instr.sliceBounds, run_underlying hu, sliceBound_ok h0 h1, ht.runSize, subA]
theorem rd_sliceHi {t E : TypeId} {z : Value} {size bytes : Nat} {x y : Operand} {a : Option Addr} {m cap : Nat} {k : IntKind} {i : Int} (hu : P.underlying t = some (.slice E)) (ht : TyF P E z size bytes) (hx : e.ev x = some (.slice a m cap)) (hy : e.ev y = some (.int k i)) (h0 : 0 ≤ i) (h1 : i ≤ cap) :
    Rd P n e w0 S l ⟨dst, .slice t x none (some y) none, ty, pos, aft, gd⟩ (.slice a i.toNat cap) :=
  fun ac w hs ho => by
    have e1 : (if cap = 0 then a else a.map (·.add (0 * size))) = a := by
      split
      · rfl
      · cases a <;> simp [Addr.add]
    simp [execOp, hs.ev hx, hs.ev hy, Instr.sliceAt, Instr.slice, Instr.sliceBounds, run_underlying hu, sliceBound_ok h0 h1, ht.runSize]
    simpa using e1
theorem OldSl.drop {w : World} {a : Option Addr} {m size cap : Nat} {cells : List Value} (h : OldSl w S a m size cells) (k : Nat) (hk : k ≤ m) (hc : m ≤ cap) : OldSl w S (subA a cap k size) (m - k) size (cells.drop (k * size)) := by
  refine ⟨by rw [List.length_drop, h.len, Nat.sub_mul], fun hp => ?_, fun j v hv => ?_, fun hp => ?_⟩
  · have := h.isSome (by omega)
    unfold subA; rw [if_neg (by omega)]
    cases a with
    | none => cases this
    | some ad => rfl
  · rw [List.getElem?_drop] at hv
    have hj := (List.getElem?_eq_some_iff.1 hv).1
    rw [h.len] at hj
    have hlt : k < m := by
      rcases Nat.lt_or_ge k m with h2 | h2
      · exact h2
      · have := Nat.mul_le_mul_right size h2; omega
    have h2 := h.cells _ _ hv
    have := h.isSome (by omega)
    unfold subA; rw [if_neg (by omega)]
    cases a with
    | none => cases this
    | some ad =>
      show w.cell? ((ad.add (k * size)).add j) = some v
      rw [add_add]; exact h2
  · have h2 := h.out (by omega)
    have := h.isSome (by omega)
    unfold subA; rw [if_neg (by omega)]
    cases a with
    | none => cases this
    | some ad =>
      show (ad.add (k * size)).block ∉ S
      rw [block_add]; exact h2
theorem OldSl.take {w : World} {a : Option Addr} {m size : Nat} {cells : List Value} (h : OldSl w S a m size cells) (k : Nat) (hk : k ≤ m) : OldSl w S a k size (cells.take (k * size)) := by
  refine ⟨by rw [List.length_take, h.len, Nat.min_eq_left (Nat.mul_le_mul_right size hk)], fun hp => h.isSome (by omega), fun j v hv => ?_, fun hp => h.out (by omega)⟩
  rw [List.getElem?_take] at hv
  split at hv
  · exact h.cells j v hv
  · cases hv
theorem oldNil (w : World) (S : List Nat) (size : Nat) : OldSl w S none 0 size [] := ⟨by simp, fun h => absurd h (by decide), fun j v hv => by simp at hv, fun h => absurd h (by decide)⟩
theorem flat_drop_all {α : Type} (f : α → List Value) (m : Nat) (hf : ∀ x, (f x).length = m) : ∀ (zs : List α) (k : Nat), (zs.flatMap f).drop (k * m) = (zs.drop k).flatMap f
  | [], k => by simp
  | z :: zs, 0 => by simp
  | z :: zs, k + 1 => by
    have e1 : (k + 1) * m = (f z).length + k * m := by rw [hf, Nat.add_mul, Nat.one_mul, Nat.add_comm]
    rw [List.flatMap_cons, e1, ← List.drop_drop, List.drop_left, flat_drop_all f m hf zs k]; rfl

/-! ### maps from integers, whatever they lead to, in the order of insertion -/
def KV (es : List MapEntry) (m : List (Int × Value)) : Prop := es.map (fun x => (x.key, x.val)) = m.map fun p => (Value.int .i64 p.1, p.2)
def lkv (k : Int) : List (Int × Value) → Option Value
  | [] => none
  | (a, v) :: l => if k = a then some v else lkv k l
theorem KV.nil : KV [] [] := rfl
theorem findNow_kv (q : IntKind) (k : Int) : ∀ (es : List MapEntry) (m : List (Int × Value)) (i : Nat), KV es m → ∃ j, Instr.findNow (.int q) (.int .i64 k) es i = some ((lkv k m).map fun v => (j, v))
  | [], [], i, _ => ⟨0, rfl⟩
  | [], _ :: _, i, h => by simp [KV] at h
  | _ :: _, [], i, h => by simp [KV] at h
  | x :: es, (a, v) :: m, i, h => by
    simp only [KV, List.map_cons, List.cons.injEq, Prod.mk.injEq] at h
    obtain ⟨⟨hk, hv⟩, hr⟩ := h
    obtain ⟨xk, xv, xb⟩ := x
    simp only at hk hv
    subst hk; subst hv
    by_cases hka : k = a
    · subst hka; exact ⟨i, by simp [lkv, Instr.findNow, Instr.sameNow]⟩
    · obtain ⟨j, hj⟩ := findNow_kv q k es m (i + 1) hr
      have h' : (k == a) = false := by simp [hka]
      exact ⟨j, by simp [lkv, Instr.findNow, Instr.sameNow, hka, h', hj]⟩
theorem run_findKeyV {q : IntKind} {kt : TypeId} (hk : P.underlying kt = some (.int q)) (k : Int) {es : List MapEntry} {m : List (Int × Value)} (hm : KV es m) (w : World) : ∃ j, (Instr.findKey kt (.int .i64 k) es).run P w = .ok ((lkv k m).map fun v => (j, v)) w := by
  obtain ⟨j, hj⟩ := findNow_kv q k es m 0 hm
  exact ⟨j, by simp [Instr.findKey, run_underlying hk, hj]⟩
theorem lookupV_run {q : IntKind} {t kt et : TypeId} {z : Value} {b : Nat} {es : List MapEntry} {nb : Nat} {m : List (Int × Value)} {k : Int} {w : World} {size bytes : Nat} (hu : P.underlying t = some (.map kt et)) (hk : P.underlying kt = some (.int q)) (ht : TyF P et z size bytes) (hb : w.heap[b]? = some (.map es.toArray nb)) (hm : KV es m) (ok : Bool) :
    (Instr.lookup t (.map (some b)) (.int .i64 k) ok).run P w = .ok (if ok then .tuple #[(lkv k m).getD z, .bool (lkv k m).isSome] else (lkv k m).getD z) w := by
  obtain ⟨j, hj⟩ := run_findKeyV (P := P) hk k hm w
  have h1 := MapKept.run_getObj_map (P := P) hb
  cases h : lkv k m with
  | none =>
    rw [h] at hj
    simp [Instr.lookup, run_underlying hu, h1, run_checkKey hk, hj, ht.runZero]
  | some v =>
    rw [h] at hj
    simp [Instr.lookup, run_underlying hu, h1, run_checkKey hk, hj]
theorem rd_lookupVOk (j : Nat) {q : IntKind} {t kt et : TypeId} {x y : Operand} {z : Value} {b : Nat} {es : List MapEntry} {nb : Nat} {m : List (Int × Value)} {k : Int} {size bytes : Nat} (hm : KV es m) (hj : l[j]? = some (.obj b (.map es.toArray nb))) (hu : P.underlying t = some (.map kt et)) (hk : P.underlying kt = some (.int q)) (ht : TyF P et z size bytes) (hx : e.ev x = some (.map (some b))) (hy : e.ev y = some (.int .i64 k)) :
    Rd P n e w0 S l ⟨dst, .lookup t x y true, ty, pos, aft, gd⟩ (.tuple #[(lkv k m).getD z, .bool (lkv k m).isSome]) :=
  fun a w hs ho => by
    have hb : w.heap[b]? = some (.map es.toArray nb) := ho.holds _ (List.mem_of_getElem? hj)
    have := lookupV_run (P := P) (z := z) (k := k) hu hk ht hb hm true
    simp only [if_true] at this
    simp [execOp, hs.ev hx, hs.ev hy, this]
theorem rd_lookupV (j : Nat) {q : IntKind} {t kt et : TypeId} {x y : Operand} {z : Value} {b : Nat} {es : List MapEntry} {nb : Nat} {m : List (Int × Value)} {k : Int} {size bytes : Nat} (hm : KV es m) (hj : l[j]? = some (.obj b (.map es.toArray nb))) (hu : P.underlying t = some (.map kt et)) (hk : P.underlying kt = some (.int q)) (ht : TyF P et z size bytes) (hx : e.ev x = some (.map (some b))) (hy : e.ev y = some (.int .i64 k)) :
    Rd P n e w0 S l ⟨dst, .lookup t x y false, ty, pos, aft, gd⟩ ((lkv k m).getD z) :=
  fun a w hs ho => by
    have hb : w.heap[b]? = some (.map es.toArray nb) := ho.holds _ (List.mem_of_getElem? hj)
    have := lookupV_run (P := P) (z := z) (k := k) hu hk ht hb hm false
    simp only [Bool.false_eq_true, if_false] at this
    simp [execOp, hs.ev hx, hs.ev hy, this]
theorem op_makeMapV {t : TypeId} (hd : Nat.ble n d = false) (k : ∀ b, GK n K ((d, .map (some b)) :: e) w0 S (.obj b (.map ([] : List MapEntry).toArray 0) :: l)) :
    GK n (fun a w => Oper.wp P ⟨some d, .makeMap t none, ty, pos, aft, gd⟩ a w K Q) e w0 S l := fun a w hs ho => by
  have hr : (execOp a.eval ⟨some d, .makeMap t none, ty, pos, aft, gd⟩).run P w = .ok (.value (.map (some w.heap.size))) (w.alloc (.map ([] : List MapEntry).toArray 0)) := by
    simp [execOp, Instr.makeMap]
  exact wp_value hr (k _ _ _ (hs.put (blt_lt hd) _) (ho.alloc (.obj w.heap.size (.map ([] : List MapEntry).toArray 0)) _ rfl (heap_alloc_new w _)))
theorem op_mapInsertV (i : Nat) {q : IntKind} {t kt et : TypeId} {x y z : Operand} {b : Nat} {es : List MapEntry} {nb : Nat} {m : List (Int × Value)} {kk : Int} {v : Value} (hm : KV es m) (hu : P.underlying t = some (.map kt et)) (hk : P.underlying kt = some (.int q)) (hx : e.ev x = some (.map (some b))) (hy : e.ev y = some (.int .i64 kk)) (hz : e.ev z = some v)
    (hi : l[i]? = some (.obj b (.map es.toArray nb))) (hno : lkv kk m = none) {l' : List HL} (hl' : l.set i (.obj b (.map (es ++ [MapEntry.mk (.int .i64 kk) v nb]).toArray (nb + 1))) = l') (k : GK n K e w0 S l') :
    GK n (fun a w => Oper.wp P ⟨none, .mapUpdate t x y z, ty, pos, aft, gd⟩ a w K Q) e w0 S l := fun a w hs ho => by
  subst hl'
  have hb : w.heap[b]? = some (.map es.toArray nb) := ho.holds _ (List.mem_of_getElem? hi)
  have hlt := lt_size hb
  have h1 := MapKept.run_getObj_map (P := P) hb
  obtain ⟨j, hj⟩ := run_findKeyV (P := P) hk kk hm w
  rw [hno] at hj
  have h2 := MapKept.run_setObj_map (P := P) (.map (es ++ [MapEntry.mk (.int .i64 kk) v nb]).toArray (nb + 1)) hb
  have hr2 : (execOp a.eval ⟨none, .mapUpdate t x y z, ty, pos, aft, gd⟩).run P w = .ok .skip { w with heap := w.heap.setIfInBounds b (.map (es ++ [MapEntry.mk (.int .i64 kk) v nb]).toArray (nb + 1)) } := by
    have e2 : (es.toArray.push { key := .int .i64 kk, val := v, born := nb } : Array MapEntry) = (es ++ [MapEntry.mk (.int .i64 kk) v nb]).toArray := by simp
    simp [execOp, hs.ev hx, hs.ev hy, hs.ev hz, Instr.mapUpdate, run_underlying hu, h1, run_checkKey hk, hj]
    simp [h2, e2]
  refine wp_skip' rfl hr2 (k _ _ hs ?_)
  refine ho.turn hi rfl rfl rfl (by simp) (fun b' hb' hne => ?_) ?_ (fun b' hb' => .inl hb')
  · simp only [HL.block, ne_eq, Option.some.injEq] at hne
    simp [Array.getElem?_setIfInBounds, hne]
  · simp [HL.holds, hlt]
theorem filterMap_ext {α β : Type} {f g : α → Option β} : ∀ {xs : List α}, (∀ x ∈ xs, f x = g x) → xs.filterMap f = xs.filterMap g
  | [], _ => rfl
  | x :: xs, h => by
    rw [List.filterMap_cons, List.filterMap_cons, h x (by simp), filterMap_ext fun y hy => h y (List.mem_cons_of_mem _ hy)]
theorem filterMap_range_get {α : Type} : ∀ (T : List α), (List.range T.length).filterMap (fun i => T[i]?) = T
  | [] => rfl
  | t :: T => by
    rw [List.length_cons, List.range_succ_eq_map, List.filterMap_cons]
    simp only [List.getElem?_cons_zero, List.filterMap_map]
    congr 1
    have := filterMap_range_get T
    simpa [Function.comp_def] using this
/-! ### a tail of heaplets that is not listed -/
theorem sub_tail {A B T : List HL} (idx : List Nat) (m : Nat) (hi : idx.Nodup) (hlt : ∀ i ∈ idx, i < m) (hm : B.length = m) (hA : A = pick idx B) : Sub (A ++ T) (B ++ T) := by
  subst hm
  refine ⟨idx ++ (List.range T.length).map (· + B.length), ?_, ?_⟩
  · rw [List.nodup_append]
    refine ⟨hi, ?_, fun a ha b hb e => ?_⟩
    · refine List.Pairwise.map _ (fun a b hab => ?_) List.nodup_range
      omega
    · obtain ⟨q, _, rfl⟩ := List.mem_map.1 hb
      have := hlt a ha
      omega
  · subst hA
    unfold pick
    rw [List.filterMap_append]
    congr 1
    · refine filterMap_ext fun i hi2 => ?_
      rw [List.getElem?_append_left (hlt i hi2)]
    · rw [List.filterMap_map]
      have h2 : ((fun i => (B ++ T)[i]?) ∘ (· + B.length)) = fun i => T[i]? := funext fun i => by
        simp [List.getElem?_append_right (show B.length ≤ i + B.length by omega)]
      rw [h2, filterMap_range_get]
theorem gx_ret1S {fn : Func} {R : Value → List HL → Prop} {t : Tmp} {v : Value} {x : Exit} {l' : List HL} (hx : x = .ret ∨ x = .normal) (hr : fn.results = #[.tmp t]) (hv : e.get t = some v) (hs : Sub l' l) (h : R v l') : GK n (bodyPost P fn (RetR w0 S R) x) e w0 S l := by
  obtain ⟨idx, hi, rfl⟩ := hs
  exact gx_ret1 hx hr hv idx hi h
end
end Go.Gv

set_option autoImplicit false
set_option linter.unusedVariables false
namespace Go.Gv
open Go.RowKit
def putAt : List Value → Nat → List Value → List Value
  | xs, _, [] => xs
  | xs, off, v :: vs => putAt (xs.set off v) (off + 1) vs
theorem putAt_eq : ∀ (vs xs : List Value) (off : Nat), off + vs.length ≤ xs.length → putAt xs off vs = xs.take off ++ (vs ++ xs.drop (off + vs.length))
  | [], xs, off, _ => by simp [putAt]
  | v :: vs, xs, off, h => by
    simp only [List.length_cons] at h
    rw [putAt, putAt_eq vs (xs.set off v) (off + 1) (by simp; omega)]
    have h1 : off < xs.length := by omega
    rw [List.drop_set_of_lt (by omega), List.take_succ_eq_append_getElem (by simpa using h1), List.take_set_of_le (Nat.le_refl _)]
    simp [Nat.add_comm, Nat.add_left_comm, Nat.add_assoc]
theorem putAt_flat {α : Type} (f : α → List Value) (m : Nat) (hf : ∀ x, (f x).length = m) (zs : List α) (k : Nat) (x : α) (h : k < zs.length) : putAt (zs.flatMap f) (k * m) (f x) = (zs.set k x).flatMap f := by
  have h2 : (k + 1) * m ≤ zs.length * m := Nat.mul_le_mul_right m h
  rw [putAt_eq _ _ _ (by rw [flat_len f m hf, hf]; rw [Nat.add_mul, Nat.one_mul] at h2; exact h2), flat_set f m hf zs k x h, hf]
section
variable {P : Program} {n : Nat} {Q : Exit → Act → World → Prop} {K : Act → World → Prop} {e : Env} {w0 : World} {S : List Nat} {l : List HL} {d : Nat} {dst : Option Nat} {ty : TypeId} {pos : String} {aft : Array Edge} {gd : Option (Nat × Bool)}
theorem run_storeOne' {b off : Nat} {v u : Value} {w : World} (hv : v.oneCell' = true) (hc : w.cell? ⟨b, off, none⟩ = some u) (hf : w.frozen? ⟨b, off, none⟩ = false) : (store ⟨b, off, none⟩ v).run P w = .ok () (w.setCell ⟨b, off, none⟩ v) := by
  cases v <;> simp [Value.oneCell'] at hv <;> simp [store, Sem.run, hc, hf]
theorem run_storeCellsRow : ∀ (vs : List Value) (j : Nat) {E : TypeId} {sz i m cap : Nat} {r : Option Nat} {xs : List Value} {l : List HL} {w : World} {b off : Nat}, Own w0 S w l → l[i]? = some (.row E sz r m cap xs) → b = r.getD 0 → off + j + vs.length ≤ xs.length → vs.all (·.oneCell') = true →
    ∃ w', (storeCells ⟨b, off, none⟩ vs j).run P w = .ok () w' ∧ Own w0 S w' (l.set i (.row E sz r m cap (putAt xs (off + j) vs)))
  | [], j, E, sz, i, m, cap, r, xs, l, w, b, off, ho, hi, hb, hl, hv => ⟨w, by simp [storeCells], by rw [putAt, set_self hi]; exact ho⟩
  | v :: vs, j, E, sz, i, m, cap, r, xs, l, w, b, off, ho, hi, hb, hl, hv => by
    subst hb
    simp only [List.length_cons] at hl
    simp only [List.all_cons, Bool.and_eq_true] at hv
    have hoff : off + j < xs.length := by omega
    obtain ⟨hf, ho2⟩ := ho.storeRow hi hoff v
    have hc := ho.rowCell i hi (List.getElem?_eq_getElem hoff)
    have h1 := run_storeOne' (P := P) hv.1 hc hf
    have hi2 : (l.set i (.row E sz r m cap (xs.set (off + j) v)))[i]? = some (.row E sz r m cap (xs.set (off + j) v)) := getElem?_set_self' hi
    obtain ⟨w', h3, h4⟩ := run_storeCellsRow vs (j + 1) (b := r.getD 0) (off := off) ho2 hi2 rfl (by simp; omega) hv.2
    refine ⟨w', ?_, ?_⟩
    · rw [storeCells]
      simp only [Sem.run_bind, Addr.add_lit, h1, Result.andThen_ok, h3]
    · rw [putAt]
      rw [List.set_set] at h4
      exact h4
/-- a struct is stored in a row -/
theorem op_storeRowAgg (i : Nat) {t E : TypeId} {z : Value} {size bytes sz : Nat} {x y : Operand} {r : Option Nat} {m cap off : Nat} {xs vs : List Value} (ht : TyF P t z size bytes) (hx : e.ev x = some (.pointer (some ⟨r.getD 0, off, none⟩))) (hy : e.ev y = some (.agg vs.toArray))
    (hv : vs.all (·.oneCell') = true) (hl : Nat.beq vs.length size = true) (hi : l[i]? = some (.row E sz r m cap xs)) (hoff : off + size ≤ xs.length) {l' : List HL} (hl' : l.set i (.row E sz r m cap (putAt xs off vs)) = l') (k : GK n K e w0 S l') :
    GK n (fun a w => Oper.wp P ⟨none, .store t x y, ty, pos, aft, gd⟩ a w K Q) e w0 S l := fun a w hs ho => by
  subst hl'
  have hl2 := Nat.eq_of_beq_eq_true hl
  obtain ⟨w', h1, h2⟩ := run_storeCellsRow (P := P) vs 0 (b := r.getD 0) (off := off) ho hi rfl (by omega) hv
  have hr2 : (execOp a.eval ⟨none, .store t x y, ty, pos, aft, gd⟩).run P w = .ok .skip w' := by
    simp [execOp, hs.ev hx, hs.ev hy, Instr.storeAt, Instr.sureAddr, storeVar, Value.cells, ht.runSize, hl2, h1]
  exact wp_skip' rfl hr2 (k _ _ hs h2)
/-- the cells of an element of a row -/
theorem cs_rowN (i : Nat) {E : TypeId} {sz : Nat} {a : Option Nat} {m cap : Nat} {xs cs : List Value} {off k : Nat} (hi : l[i]? = some (.row E sz a m cap xs)) (hcs : (xs.drop (off * k)).take k = cs) : ∀ w, Own w0 S w l → Cells w ⟨a.getD 0, (off : Int).toNat * k, none⟩ cs := cs_row i hi hcs
theorem cs_slN {a : Option Addr} {m size off k : Nat} {cells cs : List Value} (h : OldSl w0 S a m size cells) (hcs : (cells.drop (off * k)).take k = cs) : ∀ w, Own w0 S w l → Cells w ((adr a).add ((off : Int).toNat * k)) cs := cs_sl h hcs
end
end Go.Gv

set_option autoImplicit false
namespace Go.Gv
open Go.RowKit
section
variable {P : Program} {n : Nat} {Q : Exit → Act → World → Prop} {K : Act → World → Prop} {e : Env} {w0 : World} {S : List Nat} {l : List HL} {d : Nat} {dst : Option Nat} {ty : TypeId} {pos : String} {aft : Array Edge} {gd : Option (Nat × Bool)}
theorem op_storeRowP (i : Nat) {t E : TypeId} {z : Value} {size bytes sz : Nat} {x y : Operand} {r : Option Nat} {m cap off : Nat} {xs ys vs : List Value} (ht : TyF P t z size bytes) (hx : e.ev x = some (.pointer (some ⟨r.getD 0, off, none⟩))) (hy : e.ev y = some (.agg vs.toArray))
    (hv : vs.all (·.oneCell') = true) (hl : Nat.beq vs.length size = true) (hi : l[i]? = some (.row E sz r m cap xs)) (hoff : off + size ≤ xs.length) (hp : putAt xs off vs = ys) {l' : List HL} (hl' : l.set i (.row E sz r m cap ys) = l') (k : GK n K e w0 S l') :
    GK n (fun a w => Oper.wp P ⟨none, .store t x y, ty, pos, aft, gd⟩ a w K Q) e w0 S l := by
  subst hp
  exact op_storeRowAgg i ht hx hy hv hl hi hoff hl' k
theorem op_storeRowE (i : Nat) {t E : TypeId} {z : Value} {bytes sz : Nat} {x y : Operand} {r : Option Nat} {m cap off : Nat} {xs ys : List Value} {v : Value} (ht : TyF P t z 1 bytes) (hx : e.ev x = some (.pointer (some ⟨r.getD 0, off, none⟩))) (hy : e.ev y = some v)
    (hv : v.oneCell' = true) (hi : l[i]? = some (.row E sz r m cap xs)) (hoff : off < xs.length) (hp : xs.set off v = ys) {l' : List HL} (hl' : l.set i (.row E sz r m cap ys) = l') (k : GK n K e w0 S l') :
    GK n (fun a w => Oper.wp P ⟨none, .store t x y, ty, pos, aft, gd⟩ a w K Q) e w0 S l := by
  subst hp
  exact op_storeRow i ht hx hy hv hi hoff hl' k
end
end Go.Gv

set_option autoImplicit false
set_option linter.unusedVariables false
namespace Go.Gv
open Go.RowKit
theorem sub_rot (A B : List HL) : Sub (B ++ A) (A ++ B) := by
  refine ⟨(List.range B.length).map (· + A.length) ++ List.range A.length, ?_, ?_⟩
  · rw [List.nodup_append]
    refine ⟨List.Pairwise.map _ (fun a b hab => by omega) List.nodup_range, List.nodup_range, fun a ha b hb e => ?_⟩
    obtain ⟨q, _, rfl⟩ := List.mem_map.1 ha
    have := List.mem_range.1 hb
    omega
  · unfold pick
    rw [List.filterMap_append]
    congr 1
    · rw [List.filterMap_map]
      have h2 : ((fun i => (A ++ B)[i]?) ∘ (· + A.length)) = fun i => B[i]? := funext fun i => by
        simp [List.getElem?_append_right (show A.length ≤ i + A.length by omega)]
      rw [h2, filterMap_range_get]
    · refine (filterMap_range_get A).symm.trans (filterMap_ext fun i hi => ?_)
      rw [List.getElem?_append_left (List.mem_range.1 hi)]
section
variable {P : Program} {n : Nat} {K : Act → World → Prop} {e : Env} {w0 : World} {S : List Nat} {l l' : List HL}
theorem gk_sub (hl : Sub l' l) (h : GK n K e w0 S l') : GK n K e w0 S l := fun a w hs ho => h a w hs (ho.sub hl)
end
section
variable {P : Program} {n : Nat} {ops : Array Oper} {e : Env} {w0 : World} {S : List Nat} {l lc : List HL} {z : Bool} {h0 f : Nat} {QN : Act → World → Prop} {listed : Array Bool}
end
end Go.Gv

set_option autoImplicit false
set_option linter.unusedVariables false
namespace Go.Gv
open Go.RowKit Go.Sort Go.Shelf Go.Proofs
theorem putCells_all {α : Type} [Inhabited α] (enc : α → Value) (d : Array α) (c : Array Value) (h : d.size ≤ c.size) : (putCells enc 0 d c).toList = d.toList.map enc ++ c.toList.drop d.size := by
  apply List.ext_getElem?
  intro k
  rw [Array.getElem?_toList, putCells, Array.getElem?_mapIdx]
  by_cases hk : k < d.size
  · rw [List.getElem?_append_left (by simpa using hk)]
    have h1 : k < c.size := by omega
    rw [Array.getElem?_eq_getElem h1]
    simp [hk]
  · rw [List.getElem?_append_right (by simp; omega)]
    simp only [List.length_map, Array.length_toList, List.getElem?_drop]
    rw [show d.size + (k - d.size) = k by omega, Array.getElem?_toList]
    cases c[k]? with
    | none => rfl
    | some v => simp [hk]
theorem mapBlock_other (w : World) (b k : Nat) (f : Array Value → Array Value) (h : k ≠ b) : (mapBlock w b f).heap[k]? = w.heap[k]? := by
  unfold mapBlock
  simp only [Array.getElem?_modify]
  rw [if_neg (Ne.symm h)]
theorem mapBlock_same (w : World) (b : Nat) (f : Array Value → Array Value) {c : Array Value} {E : TypeId} {fr : Nat × Nat} (h : w.heap[b]? = some (.cells c E fr)) : (mapBlock w b f).heap[b]? = some (.cells (f c) E fr) := by
  unfold mapBlock
  simp only [Array.getElem?_modify, if_true, h]
  rfl
/-- a row, sorted -/
theorem sort_spec {P : Program} {ρ : Ren} (Ly : Lays.n189 P ρ) (xs : List Int) (r : Option Nat) (cp : Nat) (S : List Nat) (w0 : World) (hown : Own w0 S w0 [.row 3 1 r xs.length cp (xs.map fun z => Value.int .i64 z)]) (hlen : xs.length ≤ 1000000000) :
    Sp P (ρ.f 189) [.slice (rowA r) xs.length cp] w0 S (fun v l => l = [.row 3 1 r xs.length cp ((xs.mergeSort fun x y => decide (x ≤ y)).map fun z => Value.int .i64 z)]) := by
  have hh := hown.holds _ (List.mem_singleton.2 rfl)
  obtain ⟨h1, h2⟩ := hh
  cases r with
  | none =>
    obtain ⟨h3, h4⟩ := h2
    have hx : xs = [] := List.eq_nil_of_length_eq_zero h3
    subst hx
    unfold Sp
    refine Calls.mono (Any.slices_Sort_int_none Ly none cp w0) fun e w' ⟨he, hw⟩ => ?_
    subst hw
    exact ⟨_, _, he, rfl, by simpa using hown⟩
  | some g =>
    obtain ⟨cur, h3, h4, h5, h6, h7⟩ := h2
    have hlt := lt_size h3
    have hsz : xs.length ≤ cur.size := by omega
    have hH : Holds (Value.int .i64) w0 g 0 xs.toArray := by
      intro j hj
      have hj2 : j < xs.length := by simpa using hj
      refine ⟨?_, by simp [World.frozen?, h3]⟩
      have h8 := hown.rowCell (i := 0) (off := j) (v := .int .i64 xs[j]) rfl (by simp [hj2])
      simp only [Option.getD_some] at h8
      rw [Nat.zero_add, h8]
      simp [hj2]
    unfold Sp
    refine Calls.mono (Any.slices_Sort_int Ly g 0 cp xs w0 hH hlt (by omega)) fun e w' ⟨he, n, os, hw⟩ => ?_
    have hperm := (xs.mergeSort_perm fun x y => decide (x ≤ y)).length_eq
    have hw1 : ∀ k, k < w0.heap.size → w'.heap[k]? = (putRow (Value.int .i64) (Go.Sort.ahead w0 n) g 0 (xs.mergeSort fun x y => decide (x ≤ y)).toArray).heap[k]? := fun k hk => by
      subst hw
      simp only [grow]
      rw [Array.getElem?_append_left]
      unfold putRow mapBlock
      simpa [Go.Sort.ahead] using hk
    refine ⟨_, [.row 3 1 (some g) xs.length cp ((xs.mergeSort fun x y => decide (x ≤ y)).map fun z => Value.int .i64 z)], he, rfl, ?_⟩
    have := hown.turn (i := 0) (w' := w') (y := .row 3 1 (some g) xs.length cp ((xs.mergeSort fun x y => decide (x ≤ y)).map fun z => Value.int .i64 z)) rfl (by subst hw; rfl) (by subst hw; rfl) (by subst hw; rfl) (by
        subst hw
        simp only [grow, Array.size_append]
        unfold putRow mapBlock
        simp [Go.Sort.ahead]) (fun k hk hne => by
        rw [hw1 k hk]
        unfold putRow
        rw [mapBlock_other _ _ _ _ (fun e => hne (by simp [HL.block, e]))]
        rfl) ?_ (fun k hk => .inl hk)
    · simpa using this
    · refine ⟨by simp [hperm], putCells (Value.int .i64) 0 (xs.mergeSort fun x y => decide (x ≤ y)).toArray cur, ?_, h4, h5, ?_, ?_⟩
      · rw [hw1 g hlt]
        unfold putRow
        exact mapBlock_same _ _ _ (by simpa [Go.Sort.ahead] using h3)
      · unfold putCells; simpa using h6
      · have hl2 : (xs.mergeSort fun x y => decide (x ≤ y)).toArray.size ≤ cur.size := by simp [hperm]; exact hsz
        rw [putCells_all _ _ _ hl2]
        have e1 : xs.length * 1 = ((xs.mergeSort fun x y => decide (x ≤ y)).toArray.toList.map (Value.int .i64)).length := by simp [hperm]
        rw [e1, List.take_left]
end Go.Gv

set_option autoImplicit false
set_option linter.unusedVariables false
namespace Go.Gv
open Go.RowKit
/-! ## a call that turns a tail of heaplets -/
theorem pick_tail (A T : List HL) : pick ((List.range T.length).map (· + A.length)) (A ++ T) = T := by
  unfold pick
  rw [List.filterMap_map]
  have h2 : ((fun i => (A ++ T)[i]?) ∘ (· + A.length)) = fun i => T[i]? := funext fun i => by
    simp [List.getElem?_append_right (show A.length ≤ i + A.length by omega)]
  rw [h2, filterMap_range_get]
theorem pick_head (A T : List HL) : pick (List.range A.length) (A ++ T) = A := by
  unfold pick
  refine (filterMap_ext fun i hi => ?_).trans (filterMap_range_get A)
  rw [List.getElem?_append_left (List.mem_range.1 hi)]
section
variable {P : Program} {n : Nat} {Q : Exit → Act → World → Prop} {K : Act → World → Prop} {e : Env} {w0 : World} {S : List Nat} {l : List HL} {d : Nat} {ty : TypeId} {pos : String} {aft : Array Edge} {gd : Option (Nat × Bool)}
end
section
variable {P : Program} {n : Nat} {e : Env} {w0 : World} {S : List Nat} {l l' : List HL} {fn : Func} {R : Value → List HL → Prop}
end
section
variable {w0 w : World} {S : List Nat} {l : List HL}
theorem Cells.atS {ad : Addr} {cs : List Value} (h : Cells w0 ad cs) (ho : Own w0 S w l) (hS : ad.block ∉ S) : Cells w ad cs := fun j v hv => ho.cellOld (h j v hv) (by rw [block_add]; exact hS)
end
end Go.Gv

set_option autoImplicit false
set_option linter.unusedVariables false
namespace Go.Gv
open Go.RowKit
/-! ## bytes -/
abbrev u8V (z : Nat) : Value := .int .u8 (z : Int)
theorem get_u8n {zs : List Nat} {k z : Nat} (h : zs[k]? = some z) : (zs.map u8V)[k]? = some (u8V z) := by rw [List.getElem?_map, h]; rfl
theorem u8_one (zs : List Nat) : ∀ u ∈ zs.map u8V, u.oneCell' = true := fun u hu => by
  obtain ⟨z, _, rfl⟩ := List.mem_map.1 hu; rfl
section
variable {P : Program} {n : Nat} {e : Env} {w0 : World} {S : List Nat} {l : List HL} {dst : Option Tmp} {ty : TypeId} {pos : String} {aft : Array Edge} {gd : Option (Nat × Bool)} {x y : Operand} {t ty' : TypeId}
theorem wrapu8_ok {z : Int} (h1 : 0 ≤ z) (h2 : z < 256) : IntKind.u8.wrap z = z := by
  unfold IntKind.wrap
  simp only [IntKind.signed, IntKind.bits, Bool.false_and, if_false, Bool.false_eq_true]
  exact Int.emod_eq_of_lt h1 (by simpa using h2)
theorem bits_u8 (a b : Nat) (ha : a < 256) (hb : b < 256) (f : Nat → Nat → Nat) (g : (k : Nat) → BitVec k → BitVec k → BitVec k) (hg : ∀ x y : BitVec 8, (g 8 x y).toNat = f x.toNat y.toNat) (hf : f a b < 256) :
    IntKind.u8.wrap ((g 8 (BitVec.ofInt 8 (a : Int)) (BitVec.ofInt 8 (b : Int))).toNat : Int) = (f a b : Nat) := by
  have e1 : (BitVec.ofInt 8 (a : Int)).toNat = a := by simp; omega
  have e2 : (BitVec.ofInt 8 (b : Int)).toNat = b := by simp; omega
  rw [hg, e1, e2]
  exact wrapu8_ok (by omega) (by omega)
theorem rd_and8 {a b : Nat} (hx : e.ev x = some (.int .u8 a)) (hy : e.ev y = some (.int .u8 b)) (ha : a < 256) (hb : b < 256) : Rd P n e w0 S l ⟨dst, .binOp .and t x y ty', ty, pos, aft, gd⟩ (.int .u8 ((a &&& b : Nat) : Int)) :=
  rd_bin hx hy (by decide) fun w => by
    have := bits_u8 a b ha hb (· &&& ·) (fun _ x y => x &&& y) (fun _ _ => BitVec.toNat_and ..) (Nat.lt_of_le_of_lt Nat.and_le_left ha)
    exact congrArg (fun z => Result.ok (Value.int .u8 z) w) this
theorem rd_or8 {a b : Nat} (hx : e.ev x = some (.int .u8 a)) (hy : e.ev y = some (.int .u8 b)) (ha : a < 256) (hb : b < 256) : Rd P n e w0 S l ⟨dst, .binOp .or t x y ty', ty, pos, aft, gd⟩ (.int .u8 ((a ||| b : Nat) : Int)) :=
  rd_bin hx hy (by decide) fun w => by
    have := bits_u8 a b ha hb (· ||| ·) (fun _ x y => x ||| y) (fun _ _ => BitVec.toNat_or ..) (Nat.or_lt_two_pow (n := 8) ha hb)
    exact congrArg (fun z => Result.ok (Value.int .u8 z) w) this
/-! ## parts of slices -/
theorem rd_slice2 {E : TypeId} {z : Value} {size bytes : Nat} {u : Operand} {a : Option Addr} {m cap : Nat} {k k2 : IntKind} {i j : Int} (hu : P.underlying t = some (.slice E)) (ht : TyF P E z size bytes) (hx : e.ev x = some (.slice a m cap)) (hy : e.ev y = some (.int k i)) (hz : e.ev u = some (.int k2 j)) (h0 : 0 ≤ i) (h1 : i ≤ j) (h2 : j ≤ cap) :
    Rd P n e w0 S l ⟨dst, .slice t x (some y) (some u) none, ty, pos, aft, gd⟩ (.slice (subA a cap i.toNat size) (j.toNat - i.toNat) (cap - i.toNat)) :=
  fun ac w hs ho => by
    have e1 : (Instr.sliceBound (.int k i) j.toNat .sliceB).run P w = .ok i.toNat w := sliceBound_ok h0 (by omega)
    have e2 : (Instr.sliceBound (.int k2 j) cap .sliceAcap).run P w = .ok j.toNat w := sliceBound_ok (by omega) h2
    simp [execOp, hs.ev hx, hs.ev hy, hs.ev hz, Instr.sliceAt, Instr.slice, Instr.sliceBounds, run_underlying hu, e1, e2, ht.runSize, subA]
theorem rd_slice3 {E : TypeId} {z : Value} {size bytes : Nat} {u : Operand} {a : Option Addr} {m cap : Nat} {k k2 : IntKind} {i j : Int} (hu : P.underlying t = some (.slice E)) (ht : TyF P E z size bytes) (hx : e.ev x = some (.slice a m cap)) (hy : e.ev y = some (.int k i)) (hz : e.ev u = some (.int k2 j)) (h0 : 0 ≤ i) (h1 : i ≤ j) (h2 : j ≤ cap) :
    Rd P n e w0 S l ⟨dst, .slice t x none (some y) (some u), ty, pos, aft, gd⟩ (.slice a i.toNat j.toNat) :=
  fun ac w hs ho => by
    have e1 : (Instr.sliceBound (.int k i) j.toNat .slice3B).run P w = .ok i.toNat w := sliceBound_ok h0 (by omega)
    have e2 : (Instr.sliceBound (.int k2 j) cap .slice3Acap).run P w = .ok j.toNat w := sliceBound_ok (by omega) h2
    have e3 : (if j.toNat = 0 then a else a.map (·.add (0 * size))) = a := by
      split
      · rfl
      · cases a <;> simp [Addr.add]
    simp [execOp, hs.ev hx, hs.ev hy, hs.ev hz, Instr.sliceAt, Instr.slice, Instr.sliceBounds, run_underlying hu, e1, e2, ht.runSize]
    simpa using e3
/-! ## nil -/
theorem run_equalInSl {E : TypeId} (d : Nat) (hu : P.underlying t = some (.slice E)) (a : Option Addr) (m c m2 c2 : Nat) (w : World) : (Op.equalIn (d + 1) t (.slice a m c) (.slice none m2 c2)).run P w = .ok a.isNone w := by
  simp only [Op.equalIn, Sem.run_bind, run_underlying hu, Result.andThen_ok]
  cases a <;> rfl
theorem run_equalInPt {E : TypeId} (d : Nat) (hu : P.underlying t = some (.pointer E)) (a : Option Addr) (w : World) : (Op.equalIn (d + 1) t (.pointer a) (.pointer none)).run P w = .ok a.isNone w := by
  simp only [Op.equalIn, Sem.run_bind, run_underlying hu, Result.andThen_ok]
  cases a <;> rfl
theorem rd_eqlNilSl {E : TypeId} {a : Option Addr} {m c m2 c2 : Nat} (hgt : P.eqGuardType P.depth t = false) (hu : P.underlying t = some (.slice E)) (hx : e.ev x = some (.slice a m c)) (hy : e.ev y = some (.slice none m2 c2)) : Rd P n e w0 S l ⟨dst, .binOp .eql t x y ty', ty, pos, aft, gd⟩ (.bool a.isNone) :=
  fun ac w hs ho => by
    have h := run_equalInSl (P := P) 9999 hu a m c m2 c2 w
    have h2 : (Op.equal t (.slice a m c) (.slice none m2 c2)).run P w = .ok a.isNone w := h
    simp [execOp, hs.ev hx, hs.ev hy, eqGuard, binOp, hgt, h2]
theorem rd_eqlNilPt {E : TypeId} {a : Option Addr} (hgt : P.eqGuardType P.depth t = false) (hu : P.underlying t = some (.pointer E)) (hx : e.ev x = some (.pointer a)) (hy : e.ev y = some (.pointer none)) : Rd P n e w0 S l ⟨dst, .binOp .eql t x y ty', ty, pos, aft, gd⟩ (.bool a.isNone) :=
  fun ac w hs ho => by
    have h := run_equalInPt (P := P) 9999 hu a w
    have h2 : (Op.equal t (.pointer a) (.pointer none)).run P w = .ok a.isNone w := h
    simp [execOp, hs.ev hx, hs.ev hy, eqGuard, binOp, hgt, h2]
end
section
variable {P : Program} {n : Nat} {Q : Exit → Act → World → Prop} {K : Act → World → Prop} {e : Env} {w0 : World} {S : List Nat} {l : List HL}
theorem gc_scope {c : Code} (h : GK n (c.wp P (Exit.noGoto Q)) e w0 S l) : GK n ((Code.scope c).wp P Q) e w0 S l := fun a w hs ho => wp_scope_straight (h a w hs ho)
theorem gc_label {id : Nat} (h : GK n (Q .normal) e w0 S l) : GK n ((Code.label id).wp P Q) e w0 S l := fun a w hs ho => wp_label (h a w hs ho)
theorem gx_scope_ret (h : GK n (Q .ret) e w0 S l) : GK n (Exit.noGoto Q .ret) e w0 S l := h
end
section
variable {P : Program} {n : Nat} {Q : Exit → Act → World → Prop} {K : Act → World → Prop} {e : Env} {w0 : World} {S : List Nat} {l : List HL} {d : Nat} {ty : TypeId} {pos : String} {aft : Array Edge} {gd : Option (Nat × Bool)}
theorem take_mid {α : Type} (A cs : List α) (o m : Nat) (hm : m ≤ A.length) (hf : o + cs.length ≤ m) : (A.take o ++ cs ++ A.drop (o + cs.length)).take m = (A.take m).take o ++ cs ++ (A.take m).drop (o + cs.length) := by
  have h1 : (A.take m).take o = A.take o := by rw [List.take_take, Nat.min_eq_left (by omega)]
  have h2 : A.drop (o + cs.length) = (A.take m).drop (o + cs.length) ++ A.drop m := by
    conv => lhs; rw [← List.take_append_drop m A]
    rw [List.drop_append_of_le_length (by rw [List.length_take]; omega)]
  rw [h1, h2, ← List.append_assoc]
  exact List.take_left' (by simp; omega)
/-- 'copy' into a part of one's own row -/
theorem op_copyRow (i o : Nat) {t t2 E : TypeId} {z : Value} {bytes : Nat} {x y : Operand} {g m cap dLen dCap sLen sCap : Nat} {xs cs : List Value} {ad : Addr} (hu : P.underlying t = some (.slice E)) (ht : TyF P E z 1 bytes) (hd : Nat.ble n d = false)
    (hx : e.ev x = some (.slice (some ⟨g, o, none⟩) dLen dCap)) (hy : e.ev y = some (.slice (some ad) sLen sCap)) (hi : l[i]? = some (.row E 1 (some g) m cap xs)) (hn : cs.length = Nat.min sLen dLen) (hsrc : ∀ w, Own w0 S w l → Cells w ad cs) (hfit : o + cs.length ≤ m) (h1 : ∀ u ∈ cs, u.oneCell' = true) {l' : List HL} (hl' : l.set i (.row E 1 (some g) m cap (xs.take o ++ cs ++ xs.drop (o + cs.length))) = l')
    (k : GK n K ((d, .int .i64 (cs.length : Int)) :: e) w0 S l') :
    GK n (fun a w => Oper.wp P ⟨some d, .call { callee := .builtin .copy, args := #[x, y], argTypes := #[t, t2] }, ty, pos, aft, gd⟩ a w K Q) e w0 S l := fun a w hs ho => by
  subst hl'
  have hh := ho.holds _ (List.mem_of_getElem? hi)
  obtain ⟨hl, cur, h3, h4, h5, h6, h7⟩ := hh
  obtain ⟨ii, hi1, hi2, hi3, hi4⟩ := ht.ex
  have hsz : (P.info? E).map (·.size) = some 1 := by rw [hi1]; simp [hi3]
  have hr := run_copy_row P w t t2 ty E g o dLen dCap ad sLen sCap cur E cs hu hsz h3 hn (hsrc w ho) (by omega) h1
  have hr2 : (execOp a.eval ⟨some d, .call { callee := .builtin .copy, args := #[x, y], argTypes := #[t, t2] }, ty, pos, aft, gd⟩).run P w = .ok (.value (.int .i64 (cs.length : Int))) (w.setRow g (cur.toList.take o ++ cs ++ cur.toList.drop (o + cs.length)).toArray) := by
    simp [execOp, resolve, invoke, builtin, hs.ev hx, hs.ev hy, hr, goInt]
  have hlt := lt_size h3
  refine wp_value hr2 (k _ _ (hs.put (blt_lt hd) _) ?_)
  refine ho.turn hi rfl rfl rfl (by simp [World.setRow]) (fun b' hb' hne => ?_) ?_ (fun b' hb' => .inl hb')
  · have hne' : b' ≠ g := fun e => hne (by simp [HL.block, e])
    exact setRow_other w g b' _ hne'
  · refine ⟨?_, _, setRow_heap w g cur _ E _ h3, h4, h5, ?_, ?_⟩
    · have : xs.length = m := by rw [hl]; omega
      simp; omega
    · have hc : cur.toList.length = cap := by simp [h6]
      simp; omega
    · have hc : cur.toList.length = cap := by simp [h6]
      rw [← h7, Nat.mul_one]
      exact take_mid cur.toList cs o m (by omega) hfit
end
end Go.Gv

set_option autoImplicit false
set_option linter.unusedVariables false
namespace Go.Gv
open Go.RowKit
section
variable {P : Program} {n : Nat} {e : Env} {w0 : World} {S : List Nat} {l : List HL} {dst : Option Tmp} {ty : TypeId} {pos : String} {aft : Array Edge} {gd : Option (Nat × Bool)} {x y : Operand} {t ty' : TypeId}
theorem bits_u64 (a b : Nat) (ha : a < 2 ^ 64) (hb : b < 2 ^ 64) (f : Nat → Nat → Nat) (g : (k : Nat) → BitVec k → BitVec k → BitVec k) (hg : ∀ x y : BitVec 64, (g 64 x y).toNat = f x.toNat y.toNat) (hf : f a b < 2 ^ 64) :
    IntKind.u64.wrap ((g 64 (BitVec.ofInt 64 (a : Int)) (BitVec.ofInt 64 (b : Int))).toNat : Int) = (f a b : Nat) := by
  have e1 : (BitVec.ofInt 64 (a : Int)).toNat = a := by simp; omega
  have e2 : (BitVec.ofInt 64 (b : Int)).toNat = b := by simp; omega
  rw [hg, e1, e2]
  exact wrap_u64_nat hf
/-- u64, the answer said outright -/
theorem rd_andU {a b c : Nat} (hx : e.ev x = some (.int .u64 a)) (hy : e.ev y = some (.int .u64 b)) (ha : a < 18446744073709551616) (hb : b < 18446744073709551616) (hc : a &&& b = c) : Rd P n e w0 S l ⟨dst, .binOp .and t x y ty', ty, pos, aft, gd⟩ (.int .u64 (c : Int)) := by
  subst hc
  exact rd_bin hx hy (by decide) fun w => by
    have := bits_u64 a b ha hb (· &&& ·) (fun _ x y => x &&& y) (fun _ _ => BitVec.toNat_and ..) (Nat.lt_of_le_of_lt Nat.and_le_left ha)
    exact congrArg (fun z => Result.ok (Value.int .u64 z) w) this
theorem rd_mulU {a b c : Nat} (hx : e.ev x = some (.int .u64 a)) (hy : e.ev y = some (.int .u64 b)) (hc : a * b = c) (h : c < 18446744073709551616) : Rd P n e w0 S l ⟨dst, .binOp .mul t x y ty', ty, pos, aft, gd⟩ (.int .u64 (c : Int)) := by
  have h1 := rd_mulk (P := P) (n := n) (w0 := w0) (S := S) (l := l) (dst := dst) (ty := ty) (pos := pos) (aft := aft) (gd := gd) (t := t) (ty' := ty') hx hy
  rwa [show ((a : Int) * (b : Int)) = ((c : Nat) : Int) by rw [← hc]; push_cast; rfl, wrap_u64_nat h] at h1
theorem rd_addU {a b c : Nat} (hx : e.ev x = some (.int .u64 a)) (hy : e.ev y = some (.int .u64 b)) (hc : a + b = c) (h : c < 18446744073709551616) : Rd P n e w0 S l ⟨dst, .binOp .add t x y ty', ty, pos, aft, gd⟩ (.int .u64 (c : Int)) := by
  have h1 := rd_addk (P := P) (n := n) (w0 := w0) (S := S) (l := l) (dst := dst) (ty := ty) (pos := pos) (aft := aft) (gd := gd) (t := t) (ty' := ty') hx hy
  rwa [show ((a : Int) + (b : Int)) = ((c : Nat) : Int) by rw [← hc]; push_cast; rfl, wrap_u64_nat h] at h1
theorem rd_shrU {a b c : Nat} {yk : IntKind} (hx : e.ev x = some (.int .u64 a)) (hy : e.ev y = some (.int yk b)) (ha : a < 18446744073709551616) (hc : a >>> b = c) : Rd P n e w0 S l ⟨dst, .binOp .shr t x y ty', ty, pos, aft, gd⟩ (.int .u64 (c : Int)) :=
  rd_shift hx hy (.inr rfl) fun w => by
    subst hc
    have h4 : (a : Int).fdiv (2 ^ (min b 64)) = ((a >>> b : Nat) : Int) := by
      rw [Nat.shiftRight_eq_div_pow]
      rcases Nat.le_total b 64 with h | h
      · rw [Nat.min_eq_left h, Int.fdiv_eq_ediv_of_nonneg _ (by exact_mod_cast Nat.zero_le _)]; simp
      · rw [Nat.min_eq_right h, Int.fdiv_eq_ediv_of_nonneg _ (by decide)]
        have e1 : a / 2 ^ b = 0 := Nat.div_eq_of_lt (Nat.lt_of_lt_of_le ha (Nat.le_trans (by decide) (Nat.pow_le_pow_right (by decide) h)))
        rw [e1]
        have : (a : Int) / 2 ^ 64 = ((a / 2 ^ 64 : Nat) : Int) := by simp
        rw [this, Nat.div_eq_of_lt (by omega)]
    simp only [Op.shift, show ¬ ((b : Int) < 0) by omega, if_false, IntKind.bits, Int.toNat_natCast, h4]; rfl
theorem rd_min2N {a b : Nat} {ats : Array TypeId} (hx : e.ev x = some (natV a)) (hy : e.ev y = some (natV b)) :
    Rd P n e w0 S l ⟨dst, .call { callee := .builtin .min, args := #[x, y], argTypes := ats }, ty, pos, aft, gd⟩ (natV (min a b)) :=
  fun a' w hs ho => by
    have e1 : (if (b : Int) < a then (b : Int) else a) = ((min a b : Nat) : Int) := by split <;> omega
    simp [execOp, resolve, invoke, builtin, hs.ev hx, hs.ev hy, Builtin.min_, Builtin.min2]
    simpa using e1
end
section
variable {P : Program} {n : Nat} {Q : Exit → Act → World → Prop} {K : Act → World → Prop} {e : Env} {w0 : World} {S : List Nat} {l : List HL} {d : Nat} {ty : TypeId} {pos : String} {aft : Array Edge} {gd : Option (Nat × Bool)}
/-- 'bytealg.MakeNoZero' -/
theorem op_noZero {F : FuncId} {fn : Func} {p t E : TypeId} {x : Operand} {xs : Array TypeId} {m : Nat} (hf : P.funcs[F]? = some fn) (hname : (fn.name == "runtime.NumGoroutine") = false) (hb : fn.body.isNone = true) (hn : Extern.findNext fn = none) (he : Extern.find fn = some (Extern.BytealgMakeNoZero.makeNoZero #[p] #[t])) (hu : P.underlying t = some (.slice E)) (hd : Nat.ble n d = false)
    (hx : e.ev x = some (natV m)) (hm : m ≤ 1000000000)
    (k : ∀ b cap xs, m ≤ cap → xs.length = m → GK n K ((d, .slice (some ⟨b, 0, none⟩) m cap) :: e) w0 S (.row E 1 (some b) m cap xs :: l)) :
    GK n (fun a w => Oper.wp P ⟨some d, .call { callee := .value (.func F), args := #[x], argTypes := xs }, ty, pos, aft, gd⟩ a w K Q) e w0 S l := fun a w hs ho => by
  obtain ⟨cs, hrun, hle, hmax⟩ := Lib.run_makeNoZero (P := P) w #[p] t E hu m (by omega)
  have hc : (callFunc F #[natV m]).run P w = .ok (.value (.slice (some ⟨w.heap.size, 0, none⟩) m cs.size)) (w.drew.drew.alloc (.cells cs E)) := by
    rw [run_callFunc_extern hf hname hb hn he, hrun]; rfl
  have hr : (execOp a.eval ⟨some d, .call { callee := .value (.func F), args := #[x], argTypes := xs }, ty, pos, aft, gd⟩).run P w = .ok (.value (.slice (some ⟨w.heap.size, 0, none⟩) m cs.size)) (w.drew.drew.alloc (.cells cs E)) := by
    have h1 : a.eval (.func F) = .func (.func F) #[] #[] := rfl
    simp [execOp, resolve, Deferred.ofValue, invoke, h1, hs.ev hx, hc]
  refine wp_value hr (k _ cs.size (cs.toList.take m) hle (by simp; omega) _ _ (hs.put (blt_lt hd) _) ?_)
  have h2 : Own w0 S w.drew.drew l := ho.drew.drew
  have h3 : (w.drew.drew).heap.size = w.heap.size := rfl
  rw [← h3]
  refine h2.alloc (.row E 1 (some w.drew.drew.heap.size) m cs.size (cs.toList.take m)) _ rfl ?_
  have hmx := hmax (by unfold maxLen; omega)
  refine ⟨by simp; omega, cs, heap_alloc_new _ _, hle, hmx, by simp, by simp⟩
end
end Go.Gv

set_option autoImplicit false
set_option linter.unusedVariables false
namespace Go.Gv
open Go.RowKit
section
variable {P : Program} {n : Nat} {e : Env} {w0 : World} {S : List Nat} {l : List HL} {dst : Option Tmp} {ty : TypeId} {pos : String} {aft : Array Edge} {gd : Option (Nat × Bool)} {x y : Operand} {t ty' : TypeId}
theorem wrap_u32_nat {n : Nat} (h : n < 4294967296) : IntKind.u32.wrap (n : Int) = (n : Int) := by
  unfold IntKind.wrap
  simp only [IntKind.signed, IntKind.bits, Bool.false_and, if_false, Bool.false_eq_true]
  exact Int.emod_eq_of_lt (by omega) (by omega)
theorem wrap_u8_nat {n : Nat} (h : n < 256) : IntKind.u8.wrap (n : Int) = (n : Int) := wrapu8_ok (by omega) (by omega)
theorem wrap_i64_nat {n : Nat} (h : n < 9223372036854775808) : IntKind.i64.wrap (n : Int) = (n : Int) := wrap64_ok (by omega) (by omega)
theorem rd_or32 {a b : Nat} (hx : e.ev x = some (.int .u32 a)) (hy : e.ev y = some (.int .u32 b)) (ha : a < 4294967296) (hb : b < 4294967296) : Rd P n e w0 S l ⟨dst, .binOp .or t x y ty', ty, pos, aft, gd⟩ (.int .u32 ((a ||| b : Nat) : Int)) :=
  rd_bin hx hy (by decide) fun w => by
    have e1 : (BitVec.ofInt 32 (a : Int)).toNat = a := by simp; omega
    have e2 : (BitVec.ofInt 32 (b : Int)).toNat = b := by simp; omega
    have h3 : (BitVec.ofInt 32 (a : Int) ||| BitVec.ofInt 32 (b : Int)).toNat = a ||| b := by rw [BitVec.toNat_or, e1, e2]
    have h4 : a ||| b < 4294967296 := Nat.or_lt_two_pow (n := 32) ha hb
    have h5 : IntKind.u32.wrap ((BitVec.ofInt 32 (a : Int) ||| BitVec.ofInt 32 (b : Int)).toNat : Int) = ((a ||| b : Nat) : Int) := by rw [h3]; exact wrap_u32_nat h4
    exact congrArg (fun z => Result.ok (Value.int .u32 z) w) h5
theorem rd_shl32 {a b : Nat} {yk : IntKind} (hx : e.ev x = some (.int .u32 a)) (hy : e.ev y = some (.int yk b)) (hb : b ≤ 32) (ha : a * 2 ^ b < 4294967296) : Rd P n e w0 S l ⟨dst, .binOp .shl t x y ty', ty, pos, aft, gd⟩ (.int .u32 ((a <<< b : Nat) : Int)) :=
  rd_shift hx hy (.inl rfl) fun w => by
    have h1 : min b 32 = b := by omega
    have h2 : ((a : Int) * 2 ^ b) = ((a <<< b : Nat) : Int) := by rw [Nat.shiftLeft_eq]; simp
    have h3 : a <<< b < 4294967296 := by rw [Nat.shiftLeft_eq]; exact ha
    simp only [Op.shift, show ¬ ((b : Int) < 0) by omega, if_false, IntKind.bits, Int.toNat_natCast, h1, h2]
    rw [wrap_u32_nat h3]; rfl
theorem rd_shr32 {a b : Nat} {yk : IntKind} (hx : e.ev x = some (.int .u32 a)) (hy : e.ev y = some (.int yk b)) (ha : a < 4294967296) (hb : b ≤ 32) : Rd P n e w0 S l ⟨dst, .binOp .shr t x y ty', ty, pos, aft, gd⟩ (.int .u32 ((a >>> b : Nat) : Int)) :=
  rd_shift hx hy (.inr rfl) fun w => by
    have h4 : (a : Int).fdiv (2 ^ (min b 32)) = ((a >>> b : Nat) : Int) := by
      rw [Nat.shiftRight_eq_div_pow, Nat.min_eq_left hb, Int.fdiv_eq_ediv_of_nonneg _ (by exact_mod_cast Nat.zero_le _)]; simp
    simp only [Op.shift, show ¬ ((b : Int) < 0) by omega, if_false, IntKind.bits, Int.toNat_natCast, h4]; rfl
end
end Go.Gv

set_option autoImplicit false
set_option linter.unusedVariables false
namespace Go.Gv
open Go.RowKit
theorem heap_freeze {w : World} {b k : Nat} {C : Array Value} {e : TypeId} (h : w.heap[b]? = some (.cells C e (0, 0))) : (w.freeze ⟨b, k, none⟩ 1).heap[b]? = some (.cells C e (k, k + 1)) := by
  have hlt := lt_size h
  have h' : w.heap[b] = .cells C e (0, 0) := by simpa [Array.getElem?_eq_getElem hlt] using h
  unfold World.freeze
  rw [if_neg (by decide)]
  show (w.heap.modify b _)[b]? = _
  rw [Array.getElem?_eq_getElem (by simpa using hlt), Array.getElem_modify_self, h']
  rfl
theorem heap_freeze_other {w : World} {b c k : Nat} (hne : c ≠ b) : (w.freeze ⟨b, k, none⟩ 1).heap[c]? = w.heap[c]? := by
  unfold World.freeze
  rw [if_neg (by decide)]
  show (w.heap.modify b _)[c]? = _
  rw [Array.getElem?_modify]
  rw [if_neg (fun e => hne e.symm)]
theorem objSl {w0 w : World} {S : List Nat} {l : List HL} (ho : Own w0 S w l) (i : Nat) {b m : Nat} {E : TypeId} {fr : Nat × Nat} {xs : List Value} (hm : xs.length = m) (hi : l[i]? = some (.obj b (.cells xs.toArray E fr))) : OldSl w [] (some ⟨b, 0, none⟩) m 1 xs := by
  have hb : w.heap[b]? = some (.cells xs.toArray E fr) := ho.holds _ (List.mem_of_getElem? hi)
  refine ⟨by omega, fun _ => rfl, fun j v hv => ?_, fun _ => by simp⟩
  simp only [adr, Option.getD_some]
  rw [Addr.add_lit, Nat.zero_add]
  simp [World.cell?, hb, hv]
theorem objOut {w0 w : World} {S : List Nat} {l : List HL} (ho : Own w0 S w l) (i : Nat) (ic : List Nat) {b m : Nat} {E : TypeId} {fr : Nat × Nat} {xs : List Value} (hm : xs.length = m) (hi : l[i]? = some (.obj b (.cells xs.toArray E fr))) (hn : i ∉ ic) : OldSl w ((pick ic l).filterMap HL.block) (some ⟨b, 0, none⟩) m 1 xs := by
  have h := objSl ho i hm hi
  refine ⟨h.len, h.isSome, h.cells, fun _ hb => ?_⟩
  obtain ⟨y, hy, hyb⟩ := List.mem_filterMap.1 hb
  simp only [pick, List.mem_filterMap] at hy
  obtain ⟨j, hj, hjy⟩ := hy
  have := nodup_inj ho.nodup hi hjy (b := b) rfl hyb
  subst this
  exact hn hj
section
variable {P : Program} {n : Nat} {Q : Exit → Act → World → Prop} {K : Act → World → Prop} {e : Env} {w0 : World} {S : List Nat} {l : List HL} {d : Nat} {ty : TypeId} {pos : String} {aft : Array Edge} {gd : Option (Nat × Bool)}
/-- '[]byte("..")': the literal's row gets a mark behind its last cell -/
theorem op_convConst (i : Nat) {t E : TypeId} {x : Operand} {b m : Nat} {xs : List Value} (hu : P.underlying t = some (.slice E)) (hE : P.underlying E = some (.int .u8)) (hd : Nat.ble n d = false) (hx : e.ev x = some (.slice (some ⟨b, 0, none⟩) m m)) (hi : l[i]? = some (.row E 1 (some b) m m xs)) {l' : List HL} (hl' : l.set i (.obj b (.cells xs.toArray E (m, m + 1))) = l')
    (k : GK n K ((d, .slice (some ⟨b, 0, none⟩) m m) :: e) w0 S l') :
    GK n (fun a w => Oper.wp P ⟨some d, .convert t t x, ty, pos, aft, gd⟩ a w K Q) e w0 S l := fun a w hs ho => by
  subst hl'
  obtain ⟨h1, cur, h2, h3, h4, h5, h6⟩ := ho.holds _ (List.mem_of_getElem? hi)
  have hcur : cur = xs.toArray := by
    have : cur.toList = xs := by rw [← h6, List.take_of_length_le (by simp [h5])]
    rw [← this]
  subst hcur
  have hsz : xs.length = m := by omega
  have hsh : w.shape? b = some (E, m) := by unfold World.shape?; rw [h2]; simp [hsz]
  have hr : (execOp a.eval ⟨some d, .convert t t x, ty, pos, aft, gd⟩).run P w = .ok (.value (.slice (some ⟨b, 0, none⟩) m m)) (w.freeze ⟨b, m, none⟩ 1) := by
    simp [execOp, hs.ev hx, convert, run_underlying hu, run_underlying hE, markStringish, hsh]
  refine wp_value hr (k _ _ (hs.put (blt_lt hd) _) ?_)
  refine ho.turn hi ?_ ?_ ?_ ?_ (fun b' hb' hne => heap_freeze_other (fun e => hne (by simp [HL.block, e]))) (heap_freeze h2) (fun b' hb' => .inl hb')
  · unfold World.freeze; rw [if_neg (by decide)]
  · unfold World.freeze; rw [if_neg (by decide)]
  · unfold World.freeze; rw [if_neg (by decide)]
  · unfold World.freeze; rw [if_neg (by decide)]; simp
end
section
variable {P : Program} {n : Nat} {e : Env} {w0 : World} {S : List Nat} {l : List HL} {dst : Option Tmp} {ty : TypeId} {pos : String} {aft : Array Edge} {gd : Option (Nat × Bool)} {x y : Operand} {t t2 ty' : TypeId}
def strN (zs : List Nat) : ByteArray := strOfNums (zs.map fun z : Nat => (z : Int))
theorem rd_toStr {E : TypeId} {a : Option Addr} {m c : Nat} {zs : List Nat} (hu : P.underlying t = some (.slice E)) (hE : P.underlying E = some (.int .u8)) (hv : P.underlying t2 = some .string) (hx : e.ev x = some (.slice a m c)) (hsl : ∀ w, Own w0 S w l → OldSl w [] a m 1 (zs.map u8V)) :
    Rd P n e w0 S l ⟨dst, .convert t t2 x, ty, pos, aft, gd⟩ (.string (strN zs)) := fun ac w hs ho => by
  have h := hsl w ho
  have hlen : zs.length = m := by have := h.len; simpa using this
  have h2 : (convert t t2 (.slice a m c)).run P w = .ok (.string (strN zs)) w := by
    cases a with
    | none =>
      have h0 : m = 0 := by
        rcases Nat.eq_zero_or_pos m with h0 | h0
        · exact h0
        · have := h.isSome h0; cases this
      obtain rfl : zs = [] := List.eq_nil_of_length_eq_zero (by omega)
      rw [run_convert_bytes_nil w t E hu hE m c t2 hv]; rfl
    | some ad =>
      have hl : (loadCells ad m).run P w = .ok ((zs.map fun z : Nat => (z : Int)).map (Value.int .u8)).toArray w := by
        have := run_loadCells_list (P := P) w ad (zs.map u8V) (fun j v hv => h.cells j v hv)
        simpa [hlen, Function.comp_def] using this
      rw [run_convert_bytes_string w t t2 E _ m c hu hE hv, run_bytesToString w _ m c _ hl, foldl_push_bytes]
      simp [strN, strOfNums, ByteArray.empty, ByteArray.emptyWithCapacity]
      rfl
  simp [execOp, hs.ev hx, h2]
theorem rd_eqlStr {a b : ByteArray} (hu : P.underlying t = some .string) (hgt : P.eqGuardType P.depth t = false) (hx : e.ev x = some (.string a)) (hy : e.ev y = some (.string b)) : Rd P n e w0 S l ⟨dst, .binOp .eql t x y ty', ty, pos, aft, gd⟩ (.bool (a.toList == b.toList)) := fun ac w hs ho => by
  simp [execOp, hs.ev hx, hs.ev hy, eqGuard, binOp, hgt, Op.stringOp]
end
end Go.Gv

set_option autoImplicit false
set_option linter.unusedVariables false
namespace Go.Gv
open Go.RowKit
/-! ### maps from integers to whatever, with stamps: lookups, updates, ranges -/
structure ME (β : Type) where
  key : Int
  v : β
  born : Nat
def ME.ent {β : Type} (val : β → Value) (x : ME β) : MapEntry := ⟨.int .i64 x.key, val x.v, x.born⟩
def mapO {β : Type} (val : β → Value) (m : List (ME β)) (nb : Nat) : Obj := .map (m.map (ME.ent val)).toArray nb
def mget {β : Type} (k : Int) : List (ME β) → Option β
  | [] => none
  | y :: l => if k = y.key then some y.v else mget k l
def mput {β : Type} (k : Int) (v : β) (nb : Nat) : List (ME β) → List (ME β)
  | [] => [⟨k, v, nb⟩]
  | y :: l => if k = y.key then ⟨k, v, y.born⟩ :: l else y :: mput k v nb l
def mnb {β : Type} (k : Int) (m : List (ME β)) (nb : Nat) : Nat := if (mget k m).isSome then nb else nb + 1
structure MOk {β : Type} (m : List (ME β)) (nb : Nat) : Prop where
  keys : (m.map ME.key).Nodup
  borns : (m.map ME.born).Nodup
  lt : ∀ x ∈ m, x.born < nb
theorem MOk.nil {β : Type} : MOk ([] : List (ME β)) 0 := ⟨List.nodup_nil, List.nodup_nil, fun _ h => by cases h⟩
theorem mput_has {β : Type} {k : Int} {v : β} {nb : Nat} : ∀ {m : List (ME β)}, (mget k m).isSome = true → (mput k v nb m).map ME.key = m.map ME.key ∧ (mput k v nb m).map ME.born = m.map ME.born
  | [], h => by cases h
  | y :: l, h => by
    unfold mput
    unfold mget at h
    by_cases e : k = y.key
    · rw [if_pos e]; simp [e]
    · rw [if_neg e] at h ⊢
      obtain ⟨h1, h2⟩ := mput_has (v := v) (nb := nb) (m := l) h
      simp [h1, h2]
theorem mput_new {β : Type} {k : Int} {v : β} {nb : Nat} : ∀ {m : List (ME β)}, mget k m = none → mput k v nb m = m ++ [⟨k, v, nb⟩]
  | [], h => rfl
  | y :: l, h => by
    unfold mput
    unfold mget at h
    by_cases e : k = y.key
    · rw [if_pos e] at h; cases h
    · rw [if_neg e] at h ⊢
      rw [mput_new h]; rfl
theorem mget_none {β : Type} {k : Int} : ∀ {m : List (ME β)}, mget k m = none ↔ k ∉ m.map ME.key
  | [] => by simp [mget]
  | y :: l => by
    unfold mget
    by_cases e : k = y.key
    · rw [if_pos e]; simp [e]
    · rw [if_neg e, mget_none (m := l)]; simp [e]
theorem mget_mem {β : Type} {k : Int} {v : β} : ∀ {m : List (ME β)}, mget k m = some v → ∃ b, (⟨k, v, b⟩ : ME β) ∈ m
  | [], h => by cases h
  | y :: l, h => by
    unfold mget at h
    by_cases e : k = y.key
    · rw [if_pos e] at h; cases h; subst e; exact ⟨y.born, List.mem_cons_self⟩
    · rw [if_neg e] at h
      obtain ⟨b, hb⟩ := mget_mem h
      exact ⟨b, List.mem_cons_of_mem _ hb⟩
theorem mput_mem {β : Type} {k : Int} {v : β} {nb : Nat} {x : ME β} : ∀ {m : List (ME β)}, x ∈ mput k v nb m → x.v = v ∧ x.key = k ∨ x ∈ m
  | [], h => by simp [mput] at h; subst h; exact .inl ⟨rfl, rfl⟩
  | y :: l, h => by
    unfold mput at h
    by_cases e : k = y.key
    · rw [if_pos e] at h
      rcases List.mem_cons.1 h with rfl | h
      · exact .inl ⟨rfl, rfl⟩
      · exact .inr (List.mem_cons_of_mem _ h)
    · rw [if_neg e] at h
      rcases List.mem_cons.1 h with rfl | h
      · exact .inr List.mem_cons_self
      · rcases mput_mem h with h | h
        · exact .inl h
        · exact .inr (List.mem_cons_of_mem _ h)
theorem MOk.put {β : Type} {m : List (ME β)} {nb : Nat} (h : MOk m nb) (k : Int) (v : β) : MOk (mput k v nb m) (mnb k m nb) := by
  unfold mnb
  cases hg : mget k m with
  | some y =>
    obtain ⟨h1, h2⟩ := mput_has (v := v) (nb := nb) (m := m) (by rw [hg]; rfl)
    rw [if_pos (show (some y).isSome = true from rfl)]
    refine ⟨by rw [h1]; exact h.keys, by rw [h2]; exact h.borns, fun x hx => ?_⟩
    have : x.born ∈ m.map ME.born := by rw [← h2]; exact List.mem_map_of_mem hx
    obtain ⟨z, hz, e⟩ := List.mem_map.1 this
    rw [← e]; exact h.lt z hz
  | none =>
    rw [if_neg (by simp), mput_new hg]
    have hk := mget_none.1 hg
    refine ⟨?_, ?_, fun x hx => ?_⟩
    · rw [List.map_append, List.nodup_append]
      exact ⟨h.keys, by simp, fun a ha b hb e => by simp at hb; subst hb; subst e; exact hk ha⟩
    · rw [List.map_append, List.nodup_append]
      refine ⟨h.borns, by simp, fun a ha b hb e => ?_⟩
      simp at hb; subst hb; subst e
      obtain ⟨z, hz, e⟩ := List.mem_map.1 ha
      have := h.lt z hz
      omega
    · rcases List.mem_append.1 hx with hx | hx
      · have := h.lt x hx; omega
      · simp at hx; subst hx; simp
theorem mkv {β : Type} (val : β → Value) : ∀ m : List (ME β), KV (m.map (ME.ent val)) (m.map fun x => (x.key, val x.v))
  | [] => rfl
  | y :: l => by
    have := mkv val l
    unfold KV at *
    simp only [List.map_cons]
    rw [this]; rfl
theorem lkv_m {β : Type} (val : β → Value) (k : Int) : ∀ m : List (ME β), lkv k (m.map fun x => (x.key, val x.v)) = (mget k m).map val
  | [] => rfl
  | y :: l => by
    simp only [List.map_cons, lkv, mget]
    by_cases e : k = y.key
    · rw [if_pos e, if_pos e]; rfl
    · rw [if_neg e, if_neg e]; exact lkv_m val k l
/-- the place of a key -/
def midx {β : Type} (k : Int) : List (ME β) → Nat
  | [] => 0
  | y :: l => if k = y.key then 0 else midx k l + 1
theorem findNow_m {β : Type} (val : β → Value) (q : IntKind) (k : Int) : ∀ (m : List (ME β)) (i : Nat), Instr.findNow (.int q) (.int .i64 k) (m.map (ME.ent val)) i = some ((mget k m).map fun v => (i + midx k m, val v))
  | [], i => rfl
  | y :: l, i => by
    have ih := findNow_m val q k l (i + 1)
    obtain ⟨yk, yv, yb⟩ := y
    by_cases e : k = yk
    · subst e; simp [ME.ent, mget, midx, Instr.findNow, Instr.sameNow]
    · have h' : (k == yk) = false := by simp [e]
      simp only [List.map_cons, ME.ent, mget, midx, Instr.findNow, Instr.sameNow, h', e, if_false] at ih ⊢
      simp only [bne_self_eq_false, Bool.false_eq_true, if_false, ↓reduceIte, ih]
      rw [show i + 1 + midx k l = i + (midx k l + 1) by omega]
theorem run_findKeyM {P : Program} {β : Type} (val : β → Value) {q : IntKind} {kt : TypeId} (hk : P.underlying kt = some (.int q)) (k : Int) (m : List (ME β)) (w : World) : (Instr.findKey kt (.int .i64 k) (m.map (ME.ent val))).run P w = .ok ((mget k m).map fun v => (midx k m, val v)) w := by
  have := findNow_m val q k m 0
  rw [Nat.zero_add] at this
  simp [Instr.findKey, run_underlying hk, this]
theorem mput_at {β : Type} (val : β → Value) {k : Int} {v v0 : β} {nb : Nat} : ∀ {m : List (ME β)}, mget k m = some v0 → ((m.map (ME.ent val)).toArray.modify (midx k m) fun e => { e with key := .int .i64 k, val := val v }) = ((mput k v nb m).map (ME.ent val)).toArray ∧ ((m.map (ME.ent val))[midx k m]?).map (fun x => MapEntry.key x) = some (.int .i64 k)
  | [], h => by cases h
  | y :: l, h => by
    unfold mget at h
    unfold midx mput
    by_cases e : k = y.key
    · rw [if_pos e, if_pos e]
      subst e
      refine ⟨?_, rfl⟩
      apply Array.ext'
      simp [ME.ent]
    · rw [if_neg e] at h
      rw [if_neg e, if_neg e]
      obtain ⟨h1, h2⟩ := mput_at val (v := v) (nb := nb) h
      refine ⟨?_, by simpa using h2⟩
      apply Array.ext'
      have h3 := congrArg Array.toList h1
      simp at h3 ⊢
      exact h3
section
variable {P : Program} {n : Nat} {Q : Exit → Act → World → Prop} {K : Act → World → Prop} {e : Env} {w0 : World} {S : List Nat} {l : List HL} {d : Nat} {dst : Option Nat} {ty : TypeId} {pos : String} {aft : Array Edge} {gd : Option (Nat × Bool)}
theorem rd_lookupMOk (j : Nat) {β : Type} (val : β → Value) {q : IntKind} {t kt et : TypeId} {x y : Operand} {z : Value} {b nb : Nat} {m : List (ME β)} {k : Int} {size bytes : Nat} (hj : l[j]? = some (.obj b (mapO val m nb))) (hu : P.underlying t = some (.map kt et)) (hk : P.underlying kt = some (.int q)) (ht : TyF P et z size bytes) (hx : e.ev x = some (.map (some b))) (hy : e.ev y = some (.int .i64 k)) :
    Rd P n e w0 S l ⟨dst, .lookup t x y true, ty, pos, aft, gd⟩ (.tuple #[((mget k m).map val).getD z, .bool (mget k m).isSome]) := by
  have h := rd_lookupVOk (P := P) (n := n) (e := e) (w0 := w0) (S := S) (l := l) (dst := dst) (ty := ty) (pos := pos) (aft := aft) (gd := gd) j (mkv val m) hj hu hk ht hx hy
  rw [lkv_m, Option.isSome_map] at h
  exact h
theorem rd_lookupM (j : Nat) {β : Type} (val : β → Value) {q : IntKind} {t kt et : TypeId} {x y : Operand} {z : Value} {b nb : Nat} {m : List (ME β)} {k : Int} {size bytes : Nat} (hj : l[j]? = some (.obj b (mapO val m nb))) (hu : P.underlying t = some (.map kt et)) (hk : P.underlying kt = some (.int q)) (ht : TyF P et z size bytes) (hx : e.ev x = some (.map (some b))) (hy : e.ev y = some (.int .i64 k)) :
    Rd P n e w0 S l ⟨dst, .lookup t x y false, ty, pos, aft, gd⟩ (((mget k m).map val).getD z) := by
  have h := rd_lookupV (P := P) (n := n) (e := e) (w0 := w0) (S := S) (l := l) (dst := dst) (ty := ty) (pos := pos) (aft := aft) (gd := gd) j (mkv val m) hj hu hk ht hx hy
  rw [lkv_m] at h
  exact h
theorem rd_lenM (j : Nat) {β : Type} (val : β → Value) {x : Operand} {t kt et : TypeId} {b nb : Nat} {m : List (ME β)} (hj : l[j]? = some (.obj b (mapO val m nb))) (hu : P.underlying t = some (.map kt et)) (hx : e.ev x = some (.map (some b))) :
    Rd P n e w0 S l ⟨dst, .call { callee := .builtin .len, args := #[x], argTypes := #[t] }, ty, pos, aft, gd⟩ (natV m.length) :=
  fun a w hs ho => by
    have hb : w.heap[b]? = some (.map (m.map (ME.ent val)).toArray nb) := ho.holds _ (List.mem_of_getElem? hj)
    have h1 := MapKept.run_getObj_map (P := P) hb
    simp [execOp, resolve, invoke, builtin, hs.ev hx, Builtin.len_, run_underlying hu, h1, goInt]
theorem op_mapPutM (i : Nat) {β : Type} (val : β → Value) {q : IntKind} {t kt et : TypeId} {x y z : Operand} {b nb : Nat} {m : List (ME β)} {kk : Int} {v : β} (hu : P.underlying t = some (.map kt et)) (hk : P.underlying kt = some (.int q)) (hx : e.ev x = some (.map (some b))) (hy : e.ev y = some (.int .i64 kk)) (hz : e.ev z = some (val v))
    (hi : l[i]? = some (.obj b (mapO val m nb))) {l' : List HL} (hl' : l.set i (.obj b (mapO val (mput kk v nb m) (mnb kk m nb))) = l') (k : GK n K e w0 S l') :
    GK n (fun a w => Oper.wp P ⟨none, .mapUpdate t x y z, ty, pos, aft, gd⟩ a w K Q) e w0 S l := fun a w hs ho => by
  subst hl'
  have hb : w.heap[b]? = some (.map (m.map (ME.ent val)).toArray nb) := ho.holds _ (List.mem_of_getElem? hi)
  have hlt := lt_size hb
  have h1 := MapKept.run_getObj_map (P := P) hb
  have hj := run_findKeyM (P := P) val hk kk m w
  have h2 := MapKept.run_setObj_map (P := P) (mapO val (mput kk v nb m) (mnb kk m nb)) hb
  have hr2 : (execOp a.eval ⟨none, .mapUpdate t x y z, ty, pos, aft, gd⟩).run P w = .ok .skip { w with heap := w.heap.setIfInBounds b (mapO val (mput kk v nb m) (mnb kk m nb)) } := by
    cases hg : mget kk m with
    | none =>
      rw [hg] at hj
      have e2 : ((m.map (ME.ent val)).toArray.push { key := .int .i64 kk, val := val v, born := nb } : Array MapEntry) = ((mput kk v nb m).map (ME.ent val)).toArray := by rw [mput_new hg]; simp [ME.ent]
      have e3 : mnb kk m nb = nb + 1 := by unfold mnb; rw [hg]; rfl
      unfold mapO at h2 ⊢
      rw [e3] at h2 ⊢
      simp only [Option.map_none] at hj
      simp [execOp, hs.ev hx, hs.ev hy, hs.ev hz, Instr.mapUpdate, run_underlying hu, h1, run_checkKey hk, hj]
      simp only [← List.push_toArray, e2] at *
      first | exact h2 | simp [h2] | (rw [e2]; simp [h2])
    | some v0 =>
      rw [hg] at hj
      obtain ⟨e2, e4⟩ := mput_at val (v := v) (nb := nb) hg
      have e3 : mnb kk m nb = nb := by unfold mnb; rw [hg]; rfl
      unfold mapO at h2 ⊢
      rw [e3] at h2 ⊢
      have e5 : ((((m.map (ME.ent val)).toArray)[midx kk m]?).map (fun x => MapEntry.key x)).getD (.int .i64 kk) = .int .i64 kk := by
        rw [List.getElem?_toArray, e4]; rfl
      have e6 : (Instr.keyThatStays (.int .i64 kk) (.int .i64 kk)).run P w = .ok (.int .i64 kk) w := by
        unfold Instr.keyThatStays
        rw [if_pos (by simp [Instr.sameBits])]
        rfl
      simp only [Option.map_some] at hj
      simp only [execOp, hs.ev hx, hs.ev hy, hs.ev hz, Instr.mapUpdate, Sem.run_bind, run_underlying hu, Result.andThen_ok, h1, run_checkKey hk, hj, e5, e6, e2, h2]
      rfl
  refine wp_skip' rfl hr2 (k _ _ hs ?_)
  refine ho.turn hi rfl rfl rfl (by simp) (fun b' hb' hne => ?_) ?_ (fun b' hb' => .inl hb')
  · simp only [HL.block, ne_eq, Option.some.injEq] at hne
    simp [Array.getElem?_setIfInBounds, hne]
  · simp [HL.holds, hlt]
/-- what a range has met -/
def iterO {β : Type} (b nb : Nat) (ds : List (ME β)) : Obj := .mapIter (some b) nb (ds.map ME.born).toArray nb
theorem op_range (i : Nat) {β : Type} (val : β → Value) {t kt et : TypeId} {x : Operand} {b nb : Nat} {m : List (ME β)} (hd : Nat.ble n d = false) (hu : P.underlying t = some (.map kt et)) (hx : e.ev x = some (.map (some b))) (hi : l[i]? = some (.obj b (mapO val m nb)))
    (k : ∀ r, GK n K ((d, .pointer (some ⟨r, 0, none⟩)) :: e) w0 S (.obj r (iterO b nb ([] : List (ME β))) :: l)) :
    GK n (fun a w => Oper.wp P ⟨some d, .range t x, ty, pos, aft, gd⟩ a w K Q) e w0 S l := fun a w hs ho => by
  have hb : w.heap[b]? = some (.map (m.map (ME.ent val)).toArray nb) := ho.holds _ (List.mem_of_getElem? hi)
  have hr : (execOp a.eval ⟨some d, .range t x, ty, pos, aft, gd⟩).run P w = .ok (.value (.pointer (some ⟨w.heap.size, 0, none⟩))) (w.alloc (iterO b nb ([] : List (ME β)))) := by
    have := run_range_map w t kt et b (m.map (ME.ent val)).toArray nb hu hb
    simp [execOp, hs.ev hx, this, iterO]
  exact wp_value hr (k _ _ _ (hs.put (blt_lt hd) _) (ho.alloc (.obj w.heap.size (iterO b nb ([] : List (ME β)))) _ rfl (heap_alloc_new w _)))
theorem left_mem {β : Type} (val : β → Value) {m ds : List (ME β)} {x : MapEntry} : x ∈ (leftOf (m.map (ME.ent val)).toArray (ds.map ME.born).toArray).toList ↔ (∃ y ∈ m, x = ME.ent val y) ∧ x.born ∉ ds.map ME.born := by
  unfold leftOf
  simp only [Array.toList_filter, List.mem_filter, List.mem_map, Bool.not_eq_true', List.contains_toArray]
  constructor
  · rintro ⟨⟨y, hy, rfl⟩, h2⟩
    exact ⟨⟨y, hy, rfl⟩, by simpa using h2⟩
  · rintro ⟨⟨y, hy, rfl⟩, h2⟩
    exact ⟨⟨y, hy, rfl⟩, by simpa using h2⟩
theorem map_inj_nodup {α β : Type} {f : α → β} : ∀ {l : List α}, (l.map f).Nodup → ∀ {x y : α}, x ∈ l → y ∈ l → f x = f y → x = y
  | [], _, _, _, hx, _, _ => by cases hx
  | a :: l, h, x, y, hx, hy, e => by
    rw [List.map_cons, List.nodup_cons] at h
    rcases List.mem_cons.1 hx with hx | hx
    · rcases List.mem_cons.1 hy with hy | hy
      · rw [hx, hy]
      · exact absurd (List.mem_map.2 ⟨y, hy, by rw [← e, hx]⟩) h.1
    · rcases List.mem_cons.1 hy with hy | hy
      · exact absurd (List.mem_map.2 ⟨x, hx, by rw [e, hy]⟩) h.1
      · exact map_inj_nodup h.2 hx hy e
theorem nodup_of_map {α β : Type} {f : α → β} {l : List α} (h : (l.map f).Nodup) : l.Nodup := by
  induction l with
  | nil => exact List.nodup_nil
  | cons a l ih =>
    rw [List.map_cons, List.nodup_cons] at h
    exact List.nodup_cons.2 ⟨fun ha => h.1 (List.mem_map_of_mem ha), ih h.2⟩
/-- a step of a range: it is over, and all have been met, or one more is met -/
theorem op_next (i j : Nat) {β : Type} (val : β → Value) {x : Operand} {b r nb : Nat} {m ds : List (ME β)} (hd : Nat.ble n d = false) (hm : MOk m nb) (hds : (ds.map ME.born).Nodup) (hsub : ∀ y ∈ ds, y ∈ m) (hx : e.ev x = some (.pointer (some ⟨r, 0, none⟩))) (hi : l[i]? = some (.obj b (mapO val m nb))) (hj : l[j]? = some (.obj r (iterO b nb ds)))
    (kend : m.Perm ds → GK n K ((d, .tuple #[.bool false]) :: e) w0 S l)
    (kstep : ∀ y, y ∈ m → y ∉ ds → GK n K ((d, .tuple #[.bool true, .int .i64 y.key, val y.v]) :: e) w0 S (l.set j (.obj r (iterO b nb (ds ++ [y]))))) :
    GK n (fun a w => Oper.wp P ⟨some d, .next x false, ty, pos, aft, gd⟩ a w K Q) e w0 S l := fun a w hs ho => by
  have hb : w.heap[b]? = some (.map (m.map (ME.ent val)).toArray nb) := ho.holds _ (List.mem_of_getElem? hi)
  have hr : w.heap[r]? = some (.mapIter (some b) nb (ds.map ME.born).toArray nb) := ho.holds _ (List.mem_of_getElem? hj)
  have hold : ∀ x ∈ (m.map (ME.ent val)).toArray.toList, x.born < nb := fun x hx => by
    obtain ⟨y, hy, rfl⟩ := List.mem_map.1 (by simpa using hx)
    exact hm.lt y hy
  rcases run_next_at (P := P) w ty r b nb nb (ds.map ME.born).toArray (m.map (ME.ent val)).toArray nb hr hb hold (Nat.le_refl _) with ⟨h0, hrun⟩ | ⟨en, hen, w1, hw1, hrun⟩
  · have hperm : m.Perm ds := by
      refine (List.perm_ext_iff_of_nodup (nodup_of_map hm.borns) (nodup_of_map hds)).2 fun y => ⟨fun hy => ?_, hsub y⟩
      by_cases hc : y.born ∈ ds.map ME.born
      · obtain ⟨z, hz, hzb⟩ := List.mem_map.1 hc
        rw [map_inj_nodup hm.borns hy (hsub z hz) hzb.symm]; exact hz
      · have := (left_mem val (m := m) (ds := ds) (x := ME.ent val y)).2 ⟨⟨y, hy, rfl⟩, hc⟩
        rw [Array.eq_empty_of_size_eq_zero h0] at this
        cases this
    have hr2 : (execOp a.eval ⟨some d, .next x false, ty, pos, aft, gd⟩).run P w = .ok (.value (.tuple #[.bool false])) w := by
      simp [execOp, hs.ev hx, hrun]
    exact wp_value hr2 (kend hperm _ _ (hs.put (blt_lt hd) _) ho)
  · obtain ⟨⟨y, hy, rfl⟩, hyn⟩ := (left_mem val).1 hen
    have hyd : y ∉ ds := fun h => hyn (List.mem_map.2 ⟨y, h, rfl⟩)
    have e1 : ((ds.map ME.born).toArray.push (ME.ent val y).born) = ((ds ++ [y]).map ME.born).toArray := by simp [ME.ent]
    rw [e1] at hrun
    have hr2 : (execOp a.eval ⟨some d, .next x false, ty, pos, aft, gd⟩).run P w = .ok (.value (.tuple #[.bool true, .int .i64 y.key, val y.v])) (ChangeMaps.setBlock w1 r (iterO b nb (ds ++ [y]))) := by
      simp [execOp, hs.ev hx, hrun, ME.ent, iterO]
    refine wp_value hr2 (kstep y hy hyd _ _ (hs.put (blt_lt hd) _) ?_)
    have hheap : w1.heap = w.heap := by rcases hw1 with rfl | rfl <;> rfl
    have hlt := lt_size hr
    refine ho.turn hj ?_ ?_ ?_ ?_ (fun b' hb' hne => ?_) ?_ (fun b' hb' => .inl hb')
    · rcases hw1 with rfl | rfl <;> rfl
    · rcases hw1 with rfl | rfl <;> rfl
    · rcases hw1 with rfl | rfl <;> rfl
    · simp [ChangeMaps.setBlock, hheap]
    · simp only [HL.block, ne_eq, Option.some.injEq] at hne
      simp [ChangeMaps.setBlock, hheap, Array.getElem?_setIfInBounds, hne]
    · simp [HL.holds, ChangeMaps.setBlock, hheap, hlt]
theorem rd_entry (i j : Nat) {β : Type} (val : β → Value) {x : Operand} {b r nb : Nat} {m ds : List (ME β)} {y : ME β} (hm : MOk m nb) (hy : y ∈ m) (hx : e.ev x = some (.pointer (some ⟨r, 0, none⟩))) (hi : l[i]? = some (.obj b (mapO val m nb))) (hj : l[j]? = some (.obj r (iterO b nb (ds ++ [y])))) :
    Rd P n e w0 S l ⟨dst, .entry x, ty, pos, aft, gd⟩ (.tuple #[.int .i64 y.key, val y.v]) :=
  fun a w hs ho => by
    have hb : w.heap[b]? = some (.map (m.map (ME.ent val)).toArray nb) := ho.holds _ (List.mem_of_getElem? hi)
    have hr : w.heap[r]? = some (.mapIter (some b) nb ((ds.map ME.born).toArray.push (ME.ent val y).born) nb) := by
      have := ho.holds _ (List.mem_of_getElem? hj)
      simpa [HL.holds, iterO, ME.ent] using this
    have := run_entry_at (P := P) w r b nb (ds.map ME.born).toArray (m.map (ME.ent val)).toArray nb (ME.ent val y) hr hb (by simp; exact ⟨y, hy, rfl⟩) (by simpa [List.map_map, Function.comp_def, ME.ent] using hm.borns)
    simp [execOp, hs.ev hx, this, ME.ent]
end
/-! ### heaplets and a tail -/
section
variable {P : Program} {n : Nat} {Q : Exit → Act → World → Prop} {K : Act → World → Prop} {e : Env} {w0 : World} {S : List Nat} {l : List HL} {d : Nat} {ty : TypeId} {pos : String} {aft : Array Edge} {gd : Option (Nat × Bool)}
def tailIx (B T : List HL) : List Nat := (List.range T.length).map (· + B.length)
theorem pick_app (B T : List HL) : ∀ ic : List Nat, (∀ i ∈ ic, i < B.length) → pick ic (B ++ T) = pick ic B := fun ic h => by
  unfold pick
  exact filterMap_ext fun i hi => List.getElem?_append_left (h i hi)
theorem pick_appT (B T : List HL) (ic : List Nat) (h : ∀ i ∈ ic, i < B.length) : pick (ic ++ tailIx B T) (B ++ T) = pick ic B ++ T := by
  have h2 := pick_tail B T
  rw [show pick (ic ++ tailIx B T) (B ++ T) = pick ic (B ++ T) ++ pick (tailIx B T) (B ++ T) by simp [pick], pick_app B T ic h]
  unfold tailIx
  rw [h2]
theorem nodup_tail {B T : List HL} {ic : List Nat} (h : ic.Nodup) (hl : ∀ i ∈ ic, i < B.length) : (ic ++ tailIx B T).Nodup := by
  rw [List.nodup_append]
  refine ⟨h, List.Pairwise.map _ (fun a b hab => by omega) List.nodup_range, fun a ha b hb e => ?_⟩
  obtain ⟨q, _, rfl⟩ := List.mem_map.1 hb
  have := hl a ha
  omega
/-- a call that consumes some, and leaves the tail -/
theorem op_callMT (B T : List HL) (ic ir : List Nat) (m : Nat) {F : FuncId} {vf vc : List Value} {x : Operand} {xs : List Operand} {at_ : Array TypeId} {vs : List Value} {Sc : List Nat} {R : Value → List HL → Prop} (hl : l = B ++ T) (hm : B.length = m) (hd : Nat.ble n d = false) (hx : e.ev x = some (.func (.func F) vf.toArray vc.toArray)) (hxs : e.evs xs = some vs)
    (hcall : ∀ args w, (callFunc F args).run P w = .ok (.enter F args) w) (hno : (ic ++ ir).Nodup) (hlt : ∀ i ∈ ic ++ ir, i < m) (hSc : Sc = (pick ic B).filterMap HL.block)
    (hspec : ∀ w, Own w0 S w l → Own w Sc w (pick ic B) → Sp P F (vf ++ vs ++ vc) w Sc R) (k : ∀ v l1, R v l1 → GK n K ((d, v) :: e) w0 S (l1 ++ (pick ir B ++ T))) :
    GK n (fun a w => Oper.wp P ⟨some d, .call { callee := .value x, args := xs.toArray, argTypes := at_ }, ty, pos, aft, gd⟩ a w K Q) e w0 S l := by
  subst hl; subst hm
  have h1 : ∀ i ∈ ic, i < B.length := fun i hi => hlt i (List.mem_append_left _ hi)
  have h2 : ∀ i ∈ ir, i < B.length := fun i hi => hlt i (List.mem_append_right _ hi)
  refine op_callM ic (ir ++ tailIx B T) hd hx hxs hcall ?_ (by rw [pick_app B T ic h1]; exact hSc) (fun w ho hc => hspec w ho (by rw [pick_app B T ic h1] at hc; exact hc)) (fun v l1 hR => ?_)
  · rw [← List.append_assoc]; exact nodup_tail hno hlt
  · rw [pick_appT B T ir h2]; exact k v l1 hR
/-- a call that consumes some, and the tail -/
theorem op_callMW (B T : List HL) (ic ir : List Nat) (m : Nat) {F : FuncId} {vf vc : List Value} {x : Operand} {xs : List Operand} {at_ : Array TypeId} {vs : List Value} {Sc : List Nat} {R : Value → List HL → Prop} (hl : l = B ++ T) (hm : B.length = m) (hd : Nat.ble n d = false) (hx : e.ev x = some (.func (.func F) vf.toArray vc.toArray)) (hxs : e.evs xs = some vs)
    (hcall : ∀ args w, (callFunc F args).run P w = .ok (.enter F args) w) (hno : (ic ++ ir).Nodup) (hlt : ∀ i ∈ ic ++ ir, i < m) (hSc : Sc = (pick ic B ++ T).filterMap HL.block)
    (hspec : ∀ w, Own w0 S w l → Own w Sc w (pick ic B ++ T) → Sp P F (vf ++ vs ++ vc) w Sc R) (k : ∀ v l1, R v l1 → GK n K ((d, v) :: e) w0 S (l1 ++ pick ir B)) :
    GK n (fun a w => Oper.wp P ⟨some d, .call { callee := .value x, args := xs.toArray, argTypes := at_ }, ty, pos, aft, gd⟩ a w K Q) e w0 S l := by
  subst hl; subst hm
  have h1 : ∀ i ∈ ic, i < B.length := fun i hi => hlt i (List.mem_append_left _ hi)
  have h2 : ∀ i ∈ ir, i < B.length := fun i hi => hlt i (List.mem_append_right _ hi)
  have hno2 : (ic ++ tailIx B T ++ ir).Nodup := by
    have h3 : (ic ++ ir ++ tailIx B T).Nodup := nodup_tail hno hlt
    exact (List.Perm.nodup_iff (by rw [List.append_assoc, List.append_assoc]; exact List.Perm.append_left _ List.perm_append_comm)).1 h3
  refine op_callM (ic ++ tailIx B T) ir hd hx hxs hcall hno2 (by rw [pick_appT B T ic h1]; exact hSc) (fun w ho hc => hspec w ho (by rw [pick_appT B T ic h1] at hc; exact hc)) (fun v l1 hR => ?_)
  rw [pick_app B T ir h2]; exact k v l1 hR
theorem gk_mid {K : Act → World → Prop} (A T B : List HL) (h : GK n K e w0 S (A ++ (B ++ T))) : GK n K e w0 S ((A ++ T) ++ B) := by
  refine gk_sub ?_ h
  have h1 := sub_rot (B ++ T) A
  refine ⟨List.range A.length ++ ((List.range B.length).map (· + (A ++ T).length) ++ (List.range T.length).map (· + A.length)), ?_, ?_⟩
  · rw [List.nodup_append, List.nodup_append]
    refine ⟨List.nodup_range, ⟨List.Pairwise.map _ (fun a b hab => by omega) List.nodup_range, List.Pairwise.map _ (fun a b hab => by omega) List.nodup_range, fun a ha b hb e => ?_⟩, fun a ha b hb e => ?_⟩
    · obtain ⟨q, _, rfl⟩ := List.mem_map.1 ha
      obtain ⟨p, hp, rfl⟩ := List.mem_map.1 hb
      have := List.mem_range.1 hp
      simp at e
      omega
    · have ha := List.mem_range.1 ha
      rcases List.mem_append.1 hb with hb | hb
      · obtain ⟨q, _, rfl⟩ := List.mem_map.1 hb
        simp at e; omega
      · obtain ⟨q, _, rfl⟩ := List.mem_map.1 hb
        omega
  · have e1 : ∀ xs ys (l : List HL), pick (xs ++ ys) l = pick xs l ++ pick ys l := fun xs ys l => by simp [pick]
    rw [e1, e1, pick_tail (A ++ T) B, List.append_assoc A T B, pick_head A (T ++ B)]
    congr 1
    congr 1
    rw [← List.append_assoc, pick_app (A ++ T) B _ (fun i hi => by obtain ⟨q, hq, rfl⟩ := List.mem_map.1 hi; have := List.mem_range.1 hq; simp; omega), pick_tail]
theorem Own.memSl {w : World} (ho : Own w0 S w l) {E : TypeId} {sz : Nat} {r : Option Nat} {m cap : Nat} {xs : List Value} (hi : HL.row E sz r m cap xs ∈ l) : OldSl w [] (rowA r) m sz xs := by
  obtain ⟨i, hi⟩ := List.getElem?_of_mem hi
  exact ho.rowSl i hi
end
section
variable {P : Program} {n : Nat} {e : Env} {w0 : World} {S : List Nat} {l l' : List HL} {fn : Func} {R : Value → List HL → Prop}
theorem gx_ret0S {x : Exit} (hx : x = .ret ∨ x = .normal) (hr : fn.results = #[]) (hs : Sub l' l) (h : R (.tuple #[]) l') : GK n (bodyPost P fn (RetR w0 S R) x) e w0 S l := by
  obtain ⟨idx, hi, rfl⟩ := hs
  exact gx_ret0 hx hr idx hi h
theorem gx_ret2S {t u : Tmp} {v v2 : Value} {x : Exit} (hx : x = .ret ∨ x = .normal) (hr : fn.results = #[.tmp t, .tmp u]) (hv : e.get t = some v) (hv2 : e.get u = some v2) (hs : Sub l' l) (h : R (.tuple #[v, v2]) l') : GK n (bodyPost P fn (RetR w0 S R) x) e w0 S l := by
  obtain ⟨idx, hi, rfl⟩ := hs
  exact gx_ret2 hx hr hv hv2 idx hi h
theorem sub_drop {A B T : List HL} (idx : List Nat) (m : Nat) (hi : idx.Nodup) (hlt : ∀ i ∈ idx, i < m) (hm : B.length = m) (hA : A = pick idx B) : Sub A (B ++ T) :=
  ⟨idx, hi, by rw [hA, pick_app B T idx (fun i h => hm ▸ hlt i h)]⟩
end
end Go.Gv

set_option autoImplicit false
set_option linter.unusedVariables false
namespace Go.Gv
open Go.RowKit
section
variable {P : Program} {n : Nat} {e : Env} {w0 : World} {S : List Nat} {l : List HL} {dst : Option Tmp} {ty : TypeId} {pos : String} {aft : Array Edge} {gd : Option (Nat × Bool)} {x y : Operand} {t t2 ty' : TypeId}
theorem rd_neqStr {a b : ByteArray} (hu : P.underlying t = some .string) (hgt : P.eqGuardType P.depth t = false) (hx : e.ev x = some (.string a)) (hy : e.ev y = some (.string b)) : Rd P n e w0 S l ⟨dst, .binOp .neq t x y ty', ty, pos, aft, gd⟩ (.bool (!(a.toList == b.toList))) := fun ac w hs ho => by
  simp [execOp, hs.ev hx, hs.ev hy, eqGuard, binOp, hgt, Op.stringOp, bne]
theorem strN_list (zs : List Nat) : (strN zs).toList = zs.map fun z => UInt8.ofNat z := by
  simp [strN, strOfNums, ByteArray.toList_eq]
theorem u8map_inj : ∀ {xs ys : List Nat}, (∀ z ∈ xs, z < 256) → (∀ z ∈ ys, z < 256) → (xs.map fun z => UInt8.ofNat z) = ys.map (fun z => UInt8.ofNat z) → xs = ys
  | [], [], _, _, _ => rfl
  | x :: xs, y :: ys, hx, hy, h => by
    simp only [List.map_cons, List.cons.injEq] at h
    have h1 := hx x List.mem_cons_self
    have h2 := hy y List.mem_cons_self
    have h3 := congrArg UInt8.toNat h.1
    simp at h3
    rw [show x = y by omega, u8map_inj (fun z hz => hx z (List.mem_cons_of_mem _ hz)) (fun z hz => hy z (List.mem_cons_of_mem _ hz)) h.2]
  | [], _ :: _, _, _, h => by simp at h
  | _ :: _, [], _, _, h => by simp at h
theorem strN_eq {xs ys : List Nat} (hx : ∀ z ∈ xs, z < 256) (hy : ∀ z ∈ ys, z < 256) : ((strN xs).toList == (strN ys).toList) = decide (xs = ys) := by
  rw [strN_list, strN_list]
  by_cases h : xs = ys
  · subst h; simp
  · rw [decide_eq_false h]
    exact beq_eq_false_iff_ne.2 fun e => h (u8map_inj hx hy e)
end
section
variable {P : Program} {n : Nat} {Q : Exit → Act → World → Prop} {K : Act → World → Prop} {e : Env} {w0 : World} {S : List Nat} {l : List HL} {d : Nat} {ty : TypeId} {pos : String} {aft : Array Edge} {gd : Option (Nat × Bool)}
/-- a part of a row of one's own is appended -/
theorem op_appendOf (i : Nat) {t E : TypeId} {z : Value} {size bytes : Nat} {x y : Operand} {r : Option Nat} {m cap : Nat} {xs : List Value} {a : Option Addr} {mm c : Nat} {news : List Value} (hsl : ∀ w, Own w0 S w l → OldSl w [] a mm size news) (hu : P.underlying t = some (.slice E)) (ht : TyF P E z size bytes)
    (hzs : z.cells.size = size) (hsz : 0 < size) (hd : Nat.ble n d = false) (hx : e.ev x = some (.slice (rowA r) m cap)) (hy : e.ev y = some (.slice a mm c)) (hi : l[i]? = some (.row E size r m cap xs))
    (h1 : ∀ u ∈ news, u.oneCell' = true) (hb : (m + mm) * bytes ≤ 140737488355328) (h63 : m + mm ≤ 9223372036854775807) {lf : HL → List HL} (hl' : ∀ y, l.set i y = lf y)
    (k : ∀ r' cap', GK n K ((d, .slice (rowA r') (m + mm) cap') :: e) w0 S (lf (.row E size r' (m + mm) cap' (xs ++ news)))) :
    GK n (fun a w => Oper.wp P ⟨some d, .call { callee := .builtin .append, args := #[x, y], argTypes := #[t, t] }, ty, pos, aft, gd⟩ a w K Q) e w0 S l := by
  intro ac w hs ho
  have hsl0 := hsl w ho
  cases a with
  | some ad => exact op_append i hu ht hzs hsz hd hx hy hi hsl0.len (fun w ho => (hsl w ho).cells) h1 hb h63 hl' k ac w hs ho
  | none =>
    have hmm : mm = 0 := by
      rcases Nat.eq_zero_or_pos mm with h | h
      · exact h
      · have := hsl0.isSome h; cases this
    subst hmm
    have hnews : news = [] := List.eq_nil_of_length_eq_zero (by simpa using hsl0.len)
    subst hnews
    have hset : l.set i (.row E size r m cap xs) = l := by
      apply List.ext_getElem?
      intro j
      rw [List.getElem?_set]
      split
      · rename_i h; subst h
        split
        · exact hi.symm
        · rename_i h2; simp [List.getElem?_eq_none (by omega : l.length ≤ i)] at hi
      · rfl
    have k' := k r cap
    rw [← hl', List.append_nil, Nat.add_zero, hset] at k'
    have hh := ho.holds _ (List.mem_of_getElem? hi)
    have hr := run_append_none (P := P) (t := t) (ty := ty) hu ht hh c
    have hr2 : (execOp ac.eval ⟨some d, .call { callee := .builtin .append, args := #[x, y], argTypes := #[t, t] }, ty, pos, aft, gd⟩).run P w = .ok (.value (.slice (rowA r) m cap)) w := by
      simp [execOp, resolve, invoke, builtin, hs.ev hx, hs.ev hy, hr]
    exact wp_value hr2 (k' _ _ (hs.put (blt_lt hd) _) ho)
/-- a callee's tail and one's own -/
theorem gk_mid2 {K : Act → World → Prop} (A T1 B T : List HL) (h : GK n K e w0 S (A ++ (B ++ (T ++ T1)))) : GK n K e w0 S ((A ++ T1) ++ (B ++ T)) := by
  refine gk_mid A T1 (B ++ T) ?_
  rw [List.append_assoc B T T1]; exact h
/-- a slice that came in, at a call that turns others and the tail -/
theorem slOutW {w : World} {B T : List HL} (ho : Own w0 S w (B ++ T)) {a : Option Addr} {m sz : Nat} {cs : List Value} (h : OldSl w0 S a m sz cs) (hsz : 0 < sz) (ic : List Nat) : OldSl w ((pick ic B ++ T).filterMap HL.block) a m sz cs := by
  refine ⟨h.len, h.isSome, (h.at ho).cells, fun hm hb => ?_⟩
  obtain ⟨y, hy, hyb⟩ := List.mem_filterMap.1 hb
  have hyl : y ∈ B ++ T := by
    rcases List.mem_append.1 hy with hy | hy
    · exact List.mem_append_left _ (pick_mem hy)
    · exact List.mem_append_right _ hy
  rcases ho.place y hyl _ hyb with h1 | h1
  · exact h.out hm h1
  · have := h.lt hm hsz; omega
/-- the same, the tail is left -/
theorem slOutT {w : World} {B T : List HL} (ho : Own w0 S w (B ++ T)) {a : Option Addr} {m sz : Nat} {cs : List Value} (h : OldSl w0 S a m sz cs) (hsz : 0 < sz) (ic : List Nat) : OldSl w ((pick ic B).filterMap HL.block) a m sz cs := by
  refine ⟨h.len, h.isSome, (h.at ho).cells, fun hm hb => ?_⟩
  obtain ⟨y, hy, hyb⟩ := List.mem_filterMap.1 hb
  rcases ho.place y (List.mem_append_left _ (pick_mem hy)) _ hyb with h1 | h1
  · exact h.out hm h1
  · have := h.lt hm hsz; omega
end
end Go.Gv
