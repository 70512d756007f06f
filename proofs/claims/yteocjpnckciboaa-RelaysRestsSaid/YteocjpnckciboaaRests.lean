import Derived.Test.YteocjpnckciboaaGv
import Derived.Test.YteocjpnckciboaaRh
import Derived.Shelf.Sort.Plain
import Derived.Shelf.Slices.In.SortNone
/- This text proves RelaysRestsSaid: for every circuit, state and input RelaysRests returns true, and its arguments read as before. -/
set_option linter.unusedSimpArgs false
set_option linter.unusedVariables false
set_option linter.unnecessarySimpa false
set_option autoImplicit false
set_option linter.unusedVariables false
namespace Go.Gv
open Go.RowKit
section
variable {P : Program} {n : Nat} {e : Env} {w0 : World} {S : List Nat} {l : List HL} {ops : Array Oper} {z : Bool} {h0 : Nat} {QN : Act → World → Prop} {lc : List HL} {f : Nat} {listed : Array Bool}
/-- only one operation may come up; its guard says yes -/
theorem ga_onlyY {o : Oper} {j dj : Nat} {b : Bool} (i : Nat) (listed' : Array Bool) (hi : ops[i]? = some o) (hg : o.guard = some (j, b)) (hj : (ops[j]?).bind (·.dst) = some dj) (hb : e.get dj = some (.bool b)) (hB : decide (Region.ready .any ops listed = [i]) = true) (hl : listed.setIfInBounds i true = listed') (hsub : (z || !listed.getD h0 true) = false ∨ Sub lc l)
    (k : GK n (fun a w => Oper.wp P o a w (wpAnyE P .any ops (IO w0 S lc) z h0 (onlyN QN) f listed') (onlyN QN)) e w0 S l) : GK n (wpAnyE P .any ops (IO w0 S lc) z h0 (onlyN QN) (f + 1) listed) e w0 S l := fun a w hs ho w' hbl => by
  subst hl
  have hB' := of_decide_eq_true hB
  refine ⟨fun hz => (ho.ext hbl).sub (sub_of hsub hz), fun h => (by rw [hB'] at h; cases h), fun q hq => ?_⟩
  rw [hB'] at hq
  have : q = i := by simpa using hq
  subst this
  unfold wpOp
  simp only [hi]
  rw [if_pos (by simp [Region.wanted, hg, yielded_of hs hj hb])]
  exact .inl (k a w' hs (ho.ext hbl))
end
end Go.Gv

set_option autoImplicit false
set_option linter.unusedVariables false
namespace Go.Gv
open Go.RowKit Go.Sort Go.Shelf Go.Proofs
theorem putCells_all {α : Type} [Inhabited α] (enc : α → Value) (d : Array α) (c : Array Value) (h : d.size ≤ c.size) : (putCells enc 0 d c).toList = d.toList.map enc ++ c.toList.drop d.size := by
  apply List.ext_getElem?
  intro k
  rw [Array.getElem?_toList, putCells, Array.getElem?_mapIdx]
  by_cases hk : k < d.size
  · rw [List.getElem?_append_left (by simpa using hk)]
    have h1 : k < c.size := by omega
    rw [Array.getElem?_eq_getElem h1]
    simp [hk]
  · rw [List.getElem?_append_right (by simp; omega)]
    simp only [List.length_map, Array.length_toList, List.getElem?_drop]
    rw [show d.size + (k - d.size) = k by omega, Array.getElem?_toList]
    cases c[k]? with
    | none => rfl
    | some v => simp [hk]
theorem mapBlock_other (w : World) (b k : Nat) (f : Array Value → Array Value) (h : k ≠ b) : (mapBlock w b f).heap[k]? = w.heap[k]? := by
  unfold mapBlock
  simp only [Array.getElem?_modify]
  rw [if_neg (Ne.symm h)]
theorem mapBlock_same (w : World) (b : Nat) (f : Array Value → Array Value) {c : Array Value} {E : TypeId} {fr : Nat × Nat} (h : w.heap[b]? = some (.cells c E fr)) : (mapBlock w b f).heap[b]? = some (.cells (f c) E fr) := by
  unfold mapBlock
  simp only [Array.getElem?_modify, if_true, h]
  rfl
/-- a row, sorted -/
theorem sort_spec {P : Program} {ρ : Ren} (Ly : Lays.n189 P ρ) (xs : List Int) (r : Option Nat) (cp : Nat) (S : List Nat) (w0 : World) (hown : Own w0 S w0 [.row 3 1 r xs.length cp (xs.map fun z => Value.int .i64 z)]) (hlen : xs.length ≤ 1000000000) :
    Sp P (ρ.f 189) [.slice (rowA r) xs.length cp] w0 S (fun v l => l = [.row 3 1 r xs.length cp ((xs.mergeSort fun x y => decide (x ≤ y)).map fun z => Value.int .i64 z)]) := by
  have hh := hown.holds _ (List.mem_singleton.2 rfl)
  obtain ⟨h1, h2⟩ := hh
  cases r with
  | none =>
    obtain ⟨h3, h4⟩ := h2
    have hx : xs = [] := List.eq_nil_of_length_eq_zero h3
    subst hx
    unfold Sp
    refine Calls.mono (Any.slices_Sort_int_none Ly none cp w0) fun e w' ⟨he, hw⟩ => ?_
    subst hw
    exact ⟨_, _, he, rfl, by simpa using hown⟩
  | some g =>
    obtain ⟨cur, h3, h4, h5, h6, h7⟩ := h2
    have hlt := lt_size h3
    have hsz : xs.length ≤ cur.size := by omega
    have hH : Holds (Value.int .i64) w0 g 0 xs.toArray := by
      intro j hj
      have hj2 : j < xs.length := by simpa using hj
      refine ⟨?_, by simp [World.frozen?, h3]⟩
      have h8 := hown.rowCell (i := 0) (off := j) (v := .int .i64 xs[j]) rfl (by simp [hj2])
      simp only [Option.getD_some] at h8
      rw [Nat.zero_add, h8]
      simp [hj2]
    unfold Sp
    refine Calls.mono (Any.slices_Sort_int Ly g 0 cp xs w0 hH hlt (by omega)) fun e w' ⟨he, n, os, hw⟩ => ?_
    have hperm := (xs.mergeSort_perm fun x y => decide (x ≤ y)).length_eq
    have hw1 : ∀ k, k < w0.heap.size → w'.heap[k]? = (putRow (Value.int .i64) (Go.Sort.ahead w0 n) g 0 (xs.mergeSort fun x y => decide (x ≤ y)).toArray).heap[k]? := fun k hk => by
      subst hw
      simp only [grow]
      rw [Array.getElem?_append_left]
      unfold putRow mapBlock
      simpa [Go.Sort.ahead] using hk
    refine ⟨_, [.row 3 1 (some g) xs.length cp ((xs.mergeSort fun x y => decide (x ≤ y)).map fun z => Value.int .i64 z)], he, rfl, ?_⟩
    have := hown.turn (i := 0) (w' := w') (y := .row 3 1 (some g) xs.length cp ((xs.mergeSort fun x y => decide (x ≤ y)).map fun z => Value.int .i64 z)) rfl (by subst hw; rfl) (by subst hw; rfl) (by subst hw; rfl) (by
        subst hw
        simp only [grow, Array.size_append]
        unfold putRow mapBlock
        simp [Go.Sort.ahead]) (fun k hk hne => by
        rw [hw1 k hk]
        unfold putRow
        rw [mapBlock_other _ _ _ _ (fun e => hne (by simp [HL.block, e]))]
        rfl) ?_ (fun k hk => .inl hk)
    · simpa using this
    · refine ⟨by simp [hperm], putCells (Value.int .i64) 0 (xs.mergeSort fun x y => decide (x ≤ y)).toArray cur, ?_, h4, h5, ?_, ?_⟩
      · rw [hw1 g hlt]
        unfold putRow
        exact mapBlock_same _ _ _ (by simpa [Go.Sort.ahead] using h3)
      · unfold putCells; simpa using h6
      · have hl2 : (xs.mergeSort fun x y => decide (x ≤ y)).toArray.size ≤ cur.size := by simp [hperm]; exact hsz
        rw [putCells_all _ _ _ hl2]
        have e1 : xs.length * 1 = ((xs.mergeSort fun x y => decide (x ≤ y)).toArray.toList.map (Value.int .i64)).length := by simp [hperm]
        rw [e1, List.take_left]
end Go.Gv
namespace Go.Proofs.Yteocjpnckciboaa
open Go.Gv
open Go.RowKit Go.Shelf Go.Sort
open Ry
def sortRen : Ren := ⟨fun x => match x with | 189 => 65 | 125 => 84 | 257 => 83 | 128 => 95 | 129 => 96 | 294 => 86 | 295 => 87 | 296 => 88 | 297 => 89 | 298 => 90 | 299 => 91 | 216 => 92 | 300 => 93 | 301 => 94 | 328 => 97 | 329 => 98 | 330 => 99 | 331 => 100 | 332 => 101 | 215 => 102 | 343 => 103 | n => n, fun x => match x with | 28 => 23 | 3 => 3 | 46 => 58 | 0 => 0 | 51 => 121 | 53 => 123 | 4 => 4 | 183 => 115 | 182 => 114 | 131 => 43 | 5 => 5 | 9 => 9 | 218 => 124 | 222 => 128 | 228 => 130 | 229 => 131 | n => n, fun x => x⟩
theorem sortLaid : Lays.n189 Try.prog sortRen := { mixed := by kernel_rfl, f125 := Eq.trans Try.func84 (congrArg some (by kernel_rfl)), f128 := Eq.trans Try.func95 (congrArg some (by kernel_rfl)), f129 := Eq.trans Try.func96 (congrArg some (by kernel_rfl)), f189 := Eq.trans Try.func65 (congrArg some (by kernel_rfl)), f215 := Eq.trans Try.func102 (congrArg some (by kernel_rfl)), f216 := Eq.trans Try.func92 (congrArg some (by kernel_rfl)), f257 := Eq.trans Try.func83 (congrArg some (by kernel_rfl)), f294 := Eq.trans Try.func86 (congrArg some (by kernel_rfl)), f295 := Eq.trans Try.func87 (congrArg some (by kernel_rfl)), f296 := Eq.trans Try.func88 (congrArg some (by kernel_rfl)), f297 := Eq.trans Try.func89 (congrArg some (by kernel_rfl)), f298 := Eq.trans Try.func90 (congrArg some (by kernel_rfl)), f299 := Eq.trans Try.func91 (congrArg some (by kernel_rfl)), f300 := Eq.trans Try.func93 (congrArg some (by kernel_rfl)), f301 := Eq.trans Try.func94 (congrArg some (by kernel_rfl)), f328 := Eq.trans Try.func97 (congrArg some (by kernel_rfl)), f329 := Eq.trans Try.func98 (congrArg some (by kernel_rfl)), f330 := Eq.trans Try.func99 (congrArg some (by kernel_rfl)), f331 := Eq.trans Try.func100 (congrArg some (by kernel_rfl)), f332 := Eq.trans Try.func101 (congrArg some (by kernel_rfl)), f343 := Eq.trans Try.func103 (congrArg some (by kernel_rfl)), t0 := Try.underlying0, a0 := Try.isAgg0, z0 := Try.sizeOf0, v0 := Try.zeroValue0, t3 := Try.underlying3, a3 := Try.isAgg3, z3 := Try.sizeOf3, v3 := Try.zeroValue3, t4 := Try.underlying4, a4 := Try.isAgg4, z4 := Try.sizeOf4, v4 := Try.zeroValue4, t5 := Try.underlying5, a5 := Try.isAgg5, z5 := Try.sizeOf5, v5 := Try.zeroValue5, t9 := Try.underlying9, a9 := Try.isAgg9, z9 := Try.sizeOf9, v9 := Try.zeroValue9, t28 := Try.underlying23, a28 := Try.isAgg23, z28 := Try.sizeOf23, v28 := Try.zeroValue23, t46 := Try.underlying58, a46 := Try.isAgg58, z46 := Try.sizeOf58, v46 := Try.zeroValue58, t51 := Try.underlying121, a51 := Try.isAgg121, z51 := Try.sizeOf121, v51 := Try.zeroValue121, t53 := Try.underlying123, a53 := Try.isAgg123, z53 := Try.sizeOf123, v53 := Try.zeroValue123, t131 := Try.underlying43, a131 := Try.isAgg43, z131 := Try.sizeOf43, v131 := Try.zeroValue43, t182 := Try.underlying114, a182 := Try.isAgg114, z182 := Try.sizeOf114, v182 := Try.zeroValue114, t183 := Try.underlying115, a183 := Try.isAgg115, z183 := Try.sizeOf115, v183 := Try.zeroValue115, t218 := Try.underlying124, a218 := Try.isAgg124, z218 := Try.sizeOf124, v218 := Try.zeroValue124, t222 := Try.underlying128, a222 := Try.isAgg128, z222 := Try.sizeOf128, v222 := Try.zeroValue128, t228 := Try.underlying130, a228 := Try.isAgg130, z228 := Try.sizeOf130, v228 := Try.zeroValue130, t229 := Try.underlying131, a229 := Try.isAgg131, z229 := Try.sizeOf131, v229 := Try.zeroValue131 }
end Go.Proofs.Yteocjpnckciboaa

set_option autoImplicit false
set_option linter.unusedVariables false
namespace Go.Proofs.Yteocjpnckciboaa
open Go.Gv
open Go.RowKit
namespace Ry
theorem sorted_ext : ∀ (xs ys : List Nat), xs.Pairwise (· < ·) → ys.Pairwise (· < ·) → (∀ a, a ∈ xs ↔ a ∈ ys) → xs = ys
  | [], [], _, _, _ => rfl
  | [], y :: ys, _, _, h => by have := (h y).2 (by simp); cases this
  | x :: xs, [], _, _, h => by have := (h x).1 (by simp); cases this
  | x :: xs, y :: ys, h1, h2, h => by
    have a1 := List.pairwise_cons.1 h1
    have a2 := List.pairwise_cons.1 h2
    have hxy : x = y := by
      have b1 := (h x).1 (by simp)
      have b2 := (h y).2 (by simp)
      rcases List.mem_cons.1 b1 with e | b1
      · exact e
      · rcases List.mem_cons.1 b2 with e | b2
        · exact e.symm
        · have := a1.1 y b2
          have := a2.1 x b1
          omega
    subst hxy
    rw [sorted_ext xs ys a1.2 a2.2 fun a => ?_]
    constructor
    · intro ha
      rcases List.mem_cons.1 ((h a).1 (List.mem_cons_of_mem _ ha)) with e | hb
      · subst e; exact absurd (a1.1 a ha) (Nat.lt_irrefl _)
      · exact hb
    · intro ha
      rcases List.mem_cons.1 ((h a).2 (List.mem_cons_of_mem _ ha)) with e | hb
      · subst e; exact absurd (a2.1 a ha) (Nat.lt_irrefl _)
      · exact hb
theorem sortInt (xs : List Nat) : (xs.map fun n : Nat => (n : Int)).mergeSort (fun x y => decide (x ≤ y)) = (xs.mergeSort fun x y => decide (x ≤ y)).map fun n : Nat => (n : Int) := by
  refine (List.map_mergeSort fun a _ b _ => ?_).symm
  rw [decide_eq_decide]; omega
theorem sort_nd {xs : List Nat} (h : xs.Nodup) : (xs.mergeSort fun x y => decide (x ≤ y)).Pairwise (· < ·) := by
  have h1 := List.pairwise_mergeSort (le := fun x y : Nat => decide (x ≤ y)) (fun a b c hab hbc => by simp at *; omega) (fun a b => by simp; omega) xs
  have h2 : (xs.mergeSort fun x y => decide (x ≤ y)).Nodup := (List.mergeSort_perm _ _).nodup_iff.2 h
  refine (h1.and h2).imp fun hab => ?_
  have a1 := hab.1
  have a2 := hab.2
  simp at a1
  omega
section
variable {c : Circ} {inn : Nat} {ns : List Nd}
def restSt (c : Circ) (inn : Nat) (ns : List Nd) : List Nat := (ns.filter (isRest c inn)).map Nd.state
def restOk (c : Circ) (inn : Nat) (ns : List Nd) (s : Nat) : Bool := hasS ns s && decide (nextL c s inn = [])
def restL (c : Circ) (inn : Nat) (ns : List Nd) : List Nat := (List.range (1 <<< c.gates.length)).filter (restOk c inn ns)
def restsR (c : Circ) (st inn : Int) : List Nat × Int := if c.ready st inn = 0 then match reachP c inn.toNat [st.toNat] with
  | some ns => (restL c inn.toNat ns, 0)
  | none => ([], 5) else ([], c.ready st inn)
theorem restsR_bad {st inn : Int} (h : c.ready st inn ≠ 0) : restsR c st inn = ([], c.ready st inn) := by unfold restsR; rw [if_neg h]
theorem restsR_full {st inn : Int} (h : c.ready st inn = 0) (hre : reachP c inn.toNat [st.toNat] = none) : restsR c st inn = ([], 5) := by unfold restsR; rw [if_pos h, hre]
theorem restsR_ok {st inn : Int} (h : c.ready st inn = 0) (hre : reachP c inn.toNat [st.toNat] = some ns) : restsR c st inn = (restL c inn.toNat ns, 0) := by unfold restsR; rw [if_pos h, hre]
theorem restSt_nd (h : (ns.map Nd.state).Nodup) : (restSt c inn ns).Nodup := by
  unfold restSt
  exact h.sublist (List.Sublist.map _ (List.filter_sublist))
theorem restSt_len : (restSt c inn ns).length ≤ ns.length := by unfold restSt; rw [List.length_map]; exact List.length_filter_le _ _
theorem rest_sorted (hg : c.Good) (hcl : Cl c inn ns) (hgr : Gr c inn ns) : ((restSt c inn ns).mergeSort fun x y => decide (x ≤ y)) = restL c inn ns := by
  refine sorted_ext _ _ (sort_nd (restSt_nd hcl.nd)) ?_ fun a => ?_
  · unfold restL
    exact List.Pairwise.filter _ List.pairwise_lt_range
  · rw [List.mem_mergeSort]
    unfold restSt restL restOk
    simp only [List.mem_map, List.mem_filter, List.mem_range, Bool.and_eq_true, decide_eq_true_eq]
    constructor
    · rintro ⟨x, ⟨hx, hr⟩, rfl⟩
      exact ⟨by rw [one_shl]; exact hgr.st x hx, hasS_iff.2 ⟨x, hx, rfl⟩, (rest_iff hg).1 hr⟩
    · rintro ⟨_, h1, h2⟩
      obtain ⟨x, hx, rfl⟩ := hasS_iff.1 h1
      exact ⟨x, ⟨hx, (rest_iff hg).2 h2⟩, rfl⟩
theorem restSt_t {i : Nat} {x : Nd} (hx : ns[i]? = some x) (h : isRest c inn x = true) : restSt c inn (ns.take (i + 1)) = restSt c inn (ns.take i) ++ [x.state] := by
  have hl : i < ns.length := (List.getElem?_eq_some_iff.1 hx).1
  have e : ns[i] = x := (List.getElem?_eq_some_iff.1 hx).2
  unfold restSt
  rw [List.take_succ_eq_append_getElem hl, List.filter_append, List.map_append, e]; simp [h]
theorem restSt_f {i : Nat} {x : Nd} (hx : ns[i]? = some x) (h : isRest c inn x = false) : restSt c inn (ns.take (i + 1)) = restSt c inn (ns.take i) := by
  have hl : i < ns.length := (List.getElem?_eq_some_iff.1 hx).1
  have e : ns[i] = x := (List.getElem?_eq_some_iff.1 hx).2
  unfold restSt
  rw [List.take_succ_eq_append_getElem hl, List.filter_append, List.map_append, e]; simp [h]
theorem mem_test (hg : c.Good) {st k : Nat} : decide (k ∈ nextL c st inn) = (nextM c st inn).testBit k := by
  cases h : (nextM c st inn).testBit k with
  | true => exact decide_eq_true (mem_nextM hg h)
  | false => refine decide_eq_false fun hm => ?_; rw [mem_nextM' hm] at h; cases h
theorem any_take {i : Nat} {x : Nd} {p : Nd → Bool} (hx : ns[i]? = some x) : (ns.take (i + 1)).any p = ((ns.take i).any p || p x) := by
  have hl : i < ns.length := (List.getElem?_eq_some_iff.1 hx).1
  have e : ns[i] = x := (List.getElem?_eq_some_iff.1 hx).2
  rw [List.take_succ_eq_append_getElem hl, List.any_append, e]; simp
end
end Ry
open Ry
theorem sort_ok (xs : List Nat) (r : Option Nat) (cp : Nat) (S : List Nat) (w0 : World) (hown : Own w0 S w0 [.row 3 1 r xs.length cp (xs.map natV)]) (hlen : xs.length ≤ 1000000000) :
    Sp Try.prog 65 [.slice (rowA r) xs.length cp] w0 S (fun v l => l = [.row 3 1 r xs.length cp ((xs.mergeSort fun x y => decide (x ≤ y)).map natV)]) := by
  have h := sort_spec sortLaid (xs.map fun n : Nat => (n : Int)) r cp S w0 (by rw [List.length_map, List.map_map]; exact hown) (by rw [List.length_map]; exact hlen)
  rw [List.length_map, sortInt, List.map_map] at h
  exact h
end Go.Proofs.Yteocjpnckciboaa

set_option autoImplicit false
set_option linter.unusedVariables false
namespace Go.Proofs.Yteocjpnckciboaa
open Go.Gv
open Go.RowKit
open Ry
set_option maxRecDepth 100000 in
set_option maxHeartbeats 1000000 in
theorem Rests_ok (c : Circ) (st inn : Int) (w0 : World) (hc : c.In w0 []) (hst : st ≤ 9223372036854775807) (hin : inn ≤ 9223372036854775807) : Sp Try.prog 33 [c.val, .int .i64 st, .int .i64 inn] w0 [] (fun v l => ∃ r cp, v = .tuple #[.slice (rowA r) (restsR c st inn).1.length cp, .int .i64 (restsR c st inn).2] ∧ l = [.row 3 1 r (restsR c st inn).1.length cp ((restsR c st inn).1.map natV)]) := by
  refine spec_enter Try.func33 rfl Try.ntmps33 rfl (Own.refl _) ?_
  simp only [argEnv]
  refine gc_seq ?_
  refine gc_region ?_
  refine gl_op (op_box rfl rfl rfl (fun b3 => ?_))
  refine gl_op (op_rd rfl (rd_assign rfl) ?_)
  refine gl_op (op_rd rfl (rd_assign rfl) ?_)
  refine gl_nil ?_
  refine gx_then ?_
  refine gc_seq ?_
  refine gc_region ?_
  refine gl_op (op_rd rfl (rd_move rfl) ?_)
  refine gl_op (op_rd rfl (rd_move rfl) ?_)
  refine gl_op (op_call rfl (vf := []) (vc := []) rfl rfl Try.call38 (fun w ho => explore_ok c ⟨b3, 0, none⟩ st inn w (hc.at ho) (ho.blkCells 0 rfl) hst hin) ?_)
  rintro _ _ (⟨hr, ns, b, G, m, r, cp, hre, rfl, rfl⟩ | ⟨hr, hre, rfl, rfl⟩ | ⟨hr, rfl, rfl⟩)
  · skip
    obtain ⟨hck, h1, h2, h3, h4⟩ := Circ.of_ready hr
    have hgd := Circ.good hck
    obtain ⟨sn, rfl⟩ : ∃ n : Nat, st = n := ⟨st.toNat, by omega⟩
    obtain ⟨im, rfl⟩ : ∃ n : Nat, inn = n := ⟨inn.toNat, by omega⟩
    have hre2 := hre
    simp only [Int.toNat_natCast] at h2 h4 hre2 ⊢
    have hrg := rgr_of hgd h2 hre2
    have hgr := hrg.gr
    have hlen := hgr.len
    refine gl_op (op_rd rfl (rd_move rfl) ?_)
    refine gl_op (op_rd rfl (rd_extract rfl rfl) ?_)
    refine gl_op (op_rd rfl (rd_extract rfl rfl) ?_)
    refine gl_op (op_rd rfl (rd_extract rfl rfl) ?_)
    refine gl_op (op_rd rfl (rd_assign rfl) ?_)
    refine gl_op (op_rd rfl (rd_assign rfl) ?_)
    refine gl_op (op_rd rfl (rd_assign rfl) ?_)
    refine gl_nil ?_
    refine gx_then ?_
    refine gc_seq ?_
    refine gc_seq ?_
    refine gc_region ?_
    refine gl_op (op_rd rfl (rd_move rfl) ?_)
    refine gl_op (op_rd rfl (rd_neq rfl rfl) (gk_dec (fun he => ?_) (fun he => ?_)))
    · skip
      exact absurd he (by simp)
    · skip
      refine gl_nil ?_
      refine gx_then ?_
      refine gc_cond_f rfl ?_
      refine gc_skip ?_
      refine gx_then ?_
      refine gc_seq ?_
      refine gc_region ?_
      refine gl_op (op_rd rfl (rd_assign rfl) ?_)
      refine gl_nil ?_
      refine gx_then ?_
      refine gc_seq ?_
      refine gc_seq ?_
      refine gc_region ?_
      refine gl_op (op_rd rfl (rd_move rfl) ?_)
      refine gl_op (op_rd rfl (rd_nilCheck rfl) ?_)
      refine gl_op (op_rd rfl (rd_fieldAddr rfl (fa_70_0 _)) ?_)
      refine gl_op (op_rd rfl (rd_load Try.underlying67 rfl rfl (by first | exact ld_blk 0 rfl rfl | exact ld_blk 3 rfl rfl | exact ld_blk 4 rfl rfl | exact ld_old (by assumption) (by simp) | exact ld_cells (by assumption) (by simp) rfl)) ?_)
      refine gl_op (op_rd rfl (rd_lenSlice Try.underlying67 rfl) ?_)
      refine gl_op (op_rd rfl (rd_move rfl) ?_)
      refine gl_nil ?_
      refine gx_then ?_
      refine gc_block ?_
      refine gk_nil 3 1 ?_
      refine gc_loopF (ι := Nat × List Nat × Option Nat × Nat) [(27, _), (28, _)] [_, _, _, _, _] (fun j => j.1 ≤ ns.length ∧ j.2.1 = restSt c im (ns.take j.1)) (fun j Fr0 => ((29, natV j.1) :: (11, .slice (rowA j.2.2.1) j.2.1.length j.2.2.2) :: Fr0)) (fun j Fr0 => (.row 3 1 j.2.2.1 j.2.1.length j.2.2.2 (j.2.1.map natV) :: Fr0)) (fun j => ns.length - j.1) (0, [], none, 0) (⟨Nat.zero_le _, rfl⟩) ⟨rfl, rfl, rfl, rfl, trivial⟩ ⟨[0, 1, 2, 3, 4, 5], by decide, rfl⟩ ?_
      rintro ⟨i, fs, rf, cf⟩ ⟨hi, hfs⟩
      simp only at hi hfs ⊢
      have hfl := restSt_len (c := c) (inn := im) (ns := ns.take i)
      rw [← hfs, List.length_take] at hfl
      refine gc_seq ?_
      refine gc_region ?_
      refine gl_op (op_rd rfl (rd_lss rfl rfl) (gk_dec (fun hlt => ?_) (fun hlt => ?_)))
      · skip
        obtain ⟨x, hx⟩ : ∃ y, ns[i]? = some y := ⟨ns[i]'(by omega), List.getElem?_eq_getElem (by omega)⟩
        refine gl_nil ?_
        refine gx_then ?_
        refine gc_seq ?_
        refine gc_cond_t rfl ?_
        refine gc_skip ?_
        refine gx_then ?_
        refine gc_seq ?_
        refine gc_block ?_
        refine gc_seq ?_
        refine gc_region ?_
        refine gl_op (op_rd rfl (rd_indexRow 2 rfl Try.underlying67 ty_72 rfl rfl (by omega) (by omega)) ?_)
        refine gl_op (op_rd rfl (rd_loadAgg Try.underlying72 rfl ty_72 rfl (cs_row 2 rfl (flat_drop_get (Nd.cells c im) 4 (fun _ => rfl) hx)) rfl) ?_)
        refine gl_op (op_alloc ty_72 rfl rfl (fun b13 => ?_))
        first | refine gl_op (op_storeAgg 0 ty_72 rfl rfl rfl rfl rfl rfl (by first | rfl | (simp only [List.set_cons_succ, List.set_cons_zero]; exact rfl)) ?_) | refine gl_op (op_storeAgg 2 ty_72 rfl rfl rfl rfl rfl rfl (by first | rfl | (simp only [List.set_cons_succ, List.set_cons_zero]; exact rfl)) ?_) | refine gl_op (op_storeAgg 5 ty_72 rfl rfl rfl rfl rfl rfl (by first | rfl | (simp only [List.set_cons_succ, List.set_cons_zero]; exact rfl)) ?_) | refine gl_op (op_storeAgg 6 ty_72 rfl rfl rfl rfl rfl rfl (by first | rfl | (simp only [List.set_cons_succ, List.set_cons_zero]; exact rfl)) ?_)
        refine gl_nil ?_
        refine gx_then ?_
        refine gc_seq ?_
        refine gc_region ?_
        refine gl_op (op_rd rfl (rd_fieldAddr rfl (fa_72_1 _)) ?_)
        refine gl_op (op_rd rfl (rd_load Try.underlying3 rfl rfl (by first | exact ld_blk 0 rfl rfl | exact ld_blk 2 rfl rfl | exact ld_blk 5 rfl rfl | exact ld_blk 6 rfl rfl | exact ld_rowN 1 rfl (get_nats (by omega)) | exact ld_rowN 3 rfl (get_nats (by omega)) | exact ld_slN (by assumption) (get_nats (by omega)) | exact ld_rowN 1 rfl (get_ints (by omega)) | exact ld_rowN 3 rfl (get_ints (by omega)) | exact ld_slN (by assumption) (get_ints (by omega)) | exact ld_old (by assumption) (by simp) | exact ld_cells (by assumption) (by simp) rfl)) ?_)
        refine gl_op (op_rd rfl (rd_eql rfl rfl) (gk_dec (fun hz => ?_) (fun hz => ?_)))
        · skip
          have hz2 : isRest c im x = true := by unfold isRest; rw [beq_iff_eq]; exact Int.ofNat.inj hz
          refine gl_nil ?_
          refine gx_then ?_
          refine gc_cond_t rfl ?_
          refine gc_region ?_
          refine gl_op (op_rd rfl (rd_move rfl) ?_)
          refine gl_op (op_rd rfl (rd_fieldAddr rfl (fa_72_0 _)) ?_)
          refine gl_op (op_rd rfl (rd_load Try.underlying3 rfl rfl (by first | exact ld_blk 0 rfl rfl | exact ld_blk 2 rfl rfl | exact ld_blk 5 rfl rfl | exact ld_blk 6 rfl rfl | exact ld_rowN 1 rfl (get_nats (by omega)) | exact ld_rowN 3 rfl (get_nats (by omega)) | exact ld_slN (by assumption) (get_nats (by omega)) | exact ld_rowN 1 rfl (get_ints (by omega)) | exact ld_rowN 3 rfl (get_ints (by omega)) | exact ld_slN (by assumption) (get_ints (by omega)) | exact ld_old (by assumption) (by simp) | exact ld_cells (by assumption) (by simp) rfl)) ?_)
          refine gl_op (op_buildSlice (sz := 1) rfl rfl (fun _ => bs_23_1_0 _) rfl rfl (fun b39 => ?_))
          refine gl_op (op_appendRow 2 0 Try.underlying23 ty_3 rfl (by decide) rfl rfl rfl rfl rfl (by simp [Value.oneCell']) (by omega) (by omega) (fun _ => (by first | rfl | (simp only [List.set_cons_succ, List.set_cons_zero]; exact rfl))) (fun r40 c40 => ?_))
          refine gl_op (op_rd rfl (rd_assign rfl) ?_)
          refine gl_nil ?_
          refine gx_block ?_
          refine gx_then ?_
          rw [snocN, snoc_len fs x.state]
          refine gc_region ?_
          refine gl_op (op_rd rfl (by first | exact rd_addN (b := 1) rfl rfl (by omega) | exact rd_add rfl rfl (by omega) (by omega)) ?_)
          refine gl_op (op_rd rfl (rd_move rfl) ?_)
          refine gl_nil ?_
          refine gx_then ?_
          exact gx_cut ((i + 1, fs ++ [x.state], r40, c40)) ⟨⟨by simp only; omega, by simp only; rw [restSt_t hx hz2, hfs]⟩, by simp only; omega⟩ ⟨rfl, rfl, rfl, rfl, trivial⟩ ⟨[2, 3, 4, 5, 6, 7], by decide, rfl⟩
        · skip
          have hz2 : isRest c im x = false := by unfold isRest; rw [beq_eq_false_iff_ne]; exact fun e => hz (congrArg Int.ofNat e)
          refine gl_nil ?_
          refine gx_then ?_
          refine gc_cond_f rfl ?_
          refine gc_skip ?_
          refine gx_block ?_
          refine gx_then ?_
          refine gc_region ?_
          refine gl_op (op_rd rfl (by first | exact rd_addN (b := 1) rfl rfl (by omega) | exact rd_add rfl rfl (by omega) (by omega)) ?_)
          refine gl_op (op_rd rfl (rd_move rfl) ?_)
          refine gl_nil ?_
          refine gx_then ?_
          exact gx_cut ((i + 1, fs, rf, cf)) ⟨⟨by simp only; omega, by simp only; rw [restSt_f hx hz2, hfs]⟩, by simp only; omega⟩ ⟨rfl, rfl, rfl, rfl, trivial⟩ ⟨[1, 2, 3, 4, 5, 6], by decide, rfl⟩
      · skip
        refine gl_nil ?_
        refine gx_then ?_
        refine gc_seq ?_
        refine gc_cond_f rfl ?_
        refine gc_exit ?_
        refine gx_then_exit ?_
        refine gx_then_exit ?_
        refine gx_block_exit ?_
        refine gx_then ?_
        refine gc_seq ?_
        refine gc_region ?_
        refine gl_op (op_rd rfl (rd_move rfl) ?_)
        refine gl_op (op_callM [0] [1, 2, 3, 4, 5] rfl (vf := []) (vc := []) rfl rfl Try.call65 (by decide) rfl (fun w how hc => sort_ok fs rf cf _ w hc (by omega)) ?_)
        rintro _ _ rfl
        refine gl_nil ?_
        refine gx_then ?_
        refine gc_seq ?_
        refine gc_region ?_
        refine gl_op (op_rd rfl (rd_move rfl) ?_)
        refine gl_op (op_rd rfl (rd_assign rfl) ?_)
        refine gl_op (op_rd rfl (rd_assign rfl) ?_)
        refine gl_nil ?_
        refine gx_then ?_
        refine gc_ret ?_
        refine gx_ret2 (.inl rfl) Try.results33 rfl rfl [0] (by decide) ?_
        rw [restsR_ok hr hre]
        simp only [Int.toNat_natCast]
        have hie : i = ns.length := by omega
        have he := rest_sorted (c := c) (inn := im) hgd hrg.cl hgr
        have hl := ((restSt c im ns).mergeSort_perm fun x y => decide (x ≤ y)).length_eq
        rw [he] at hl
        subst hie
        rw [List.take_length] at hfs
        subst hfs
        rw [hl]
        exact ⟨rf, cf, rfl, by rw [← hl, ← he]; rfl⟩
  · skip
    refine gl_op (op_rd rfl (rd_move rfl) ?_)
    refine gl_op (op_rd rfl (rd_extract rfl rfl) ?_)
    refine gl_op (op_rd rfl (rd_extract rfl rfl) ?_)
    refine gl_op (op_rd rfl (rd_extract rfl rfl) ?_)
    refine gl_op (op_rd rfl (rd_assign rfl) ?_)
    refine gl_op (op_rd rfl (rd_assign rfl) ?_)
    refine gl_op (op_rd rfl (rd_assign rfl) ?_)
    refine gl_nil ?_
    refine gx_then ?_
    refine gc_seq ?_
    refine gc_seq ?_
    refine gc_region ?_
    refine gl_op (op_rd rfl (rd_move rfl) ?_)
    refine gl_op (op_rd rfl (rd_neq rfl rfl) (gk_dec (fun he => ?_) (fun he => ?_)))
    · skip
      refine gl_nil ?_
      refine gx_then ?_
      refine gc_cond_t rfl ?_
      refine gc_seq ?_
      refine gk_nil 3 1 ?_
      refine gc_region ?_
      refine gl_op (op_rd rfl (rd_move rfl) ?_)
      refine gl_op (op_rd rfl (rd_assign rfl) ?_)
      refine gl_op (op_rd rfl (rd_assign rfl) ?_)
      refine gl_nil ?_
      refine gx_then ?_
      refine gc_ret ?_
      refine gx_then_ret ?_
      refine gx_ret2 (.inl rfl) Try.results33 rfl rfl [0] (by decide) ?_
      rw [restsR_full hr hre]
      exact ⟨none, 0, rfl, rfl⟩
    · skip
      exact absurd he (by simp)
  · skip
    refine gl_op (op_rd rfl (rd_move rfl) ?_)
    refine gl_op (op_rd rfl (rd_extract rfl rfl) ?_)
    refine gl_op (op_rd rfl (rd_extract rfl rfl) ?_)
    refine gl_op (op_rd rfl (rd_extract rfl rfl) ?_)
    refine gl_op (op_rd rfl (rd_assign rfl) ?_)
    refine gl_op (op_rd rfl (rd_assign rfl) ?_)
    refine gl_op (op_rd rfl (rd_assign rfl) ?_)
    refine gl_nil ?_
    refine gx_then ?_
    refine gc_seq ?_
    refine gc_seq ?_
    refine gc_region ?_
    refine gl_op (op_rd rfl (rd_move rfl) ?_)
    refine gl_op (op_rd rfl (rd_neq rfl rfl) (gk_dec (fun he => ?_) (fun he => ?_)))
    · skip
      refine gl_nil ?_
      refine gx_then ?_
      refine gc_cond_t rfl ?_
      refine gc_seq ?_
      refine gk_nil 3 1 ?_
      refine gc_region ?_
      refine gl_op (op_rd rfl (rd_move rfl) ?_)
      refine gl_op (op_rd rfl (rd_assign rfl) ?_)
      refine gl_op (op_rd rfl (rd_assign rfl) ?_)
      refine gl_nil ?_
      refine gx_then ?_
      refine gc_ret ?_
      refine gx_then_ret ?_
      refine gx_ret2 (.inl rfl) Try.results33 rfl rfl [0] (by decide) ?_
      rw [restsR_bad hr]
      exact ⟨none, 0, rfl, rfl⟩
    · skip
      exact absurd he (by simpa using hr)

set_option maxRecDepth 100000 in
set_option maxHeartbeats 1000000 in
theorem rRests_ok (c : Circ) (st inn : Int) (w0 : World) (hc : c.In w0 []) (hst : st ≤ 9223372036854775807) (hin : inn ≤ 9223372036854775807) : Sp Try.prog 34 [c.val, .int .i64 st, .int .i64 inn] w0 [] (fun v l => ∃ r cp, v = .tuple #[.slice (rowA r) (restsR c st inn).1.length cp, .int .i64 (restsR c st inn).2] ∧ l = [.row 3 1 r (restsR c st inn).1.length cp ((restsR c st inn).1.map natV)]) := by
  refine spec_enter Try.func34 rfl Try.ntmps34 rfl (Own.refl _) ?_
  simp only [argEnv]
  refine gc_seq ?_
  refine gc_region ?_
  refine gl_op (op_box rfl rfl rfl (fun b3 => ?_))
  refine gl_op (op_rd rfl (rd_assign rfl) ?_)
  refine gl_op (op_rd rfl (rd_assign rfl) ?_)
  refine gl_nil ?_
  refine gx_then ?_
  refine gc_seq ?_
  refine gc_region ?_
  refine gl_op (op_rd rfl (rd_loadAgg Try.underlying25 rfl ty_25 rfl (by first | exact cs_blk 0 (off := 0) (k := 3) rfl rfl | exact cs_old (by assumption) (by simp)) rfl) ?_)
  refine gl_op (op_rd rfl (rd_move rfl) ?_)
  refine gl_op (op_rd rfl (rd_move rfl) ?_)
  refine gl_op (op_call rfl (vf := []) (vc := []) rfl rfl Try.call61 (fun w ho => rexplore_ok c st inn w (hc.at ho) hst hin) ?_)
  rintro _ _ (⟨hr, ns, rs, cs, rf, cf, rg, cg, bp, hre, rfl, rfl⟩ | ⟨hr, hre, rfl, rfl⟩ | ⟨hr, rfl, rfl⟩)
  · skip
    obtain ⟨hck, h1, h2, h3, h4⟩ := Circ.of_ready hr
    have hgd := Circ.good hck
    obtain ⟨sn, rfl⟩ : ∃ n : Nat, st = n := ⟨st.toNat, by omega⟩
    obtain ⟨im, rfl⟩ : ∃ n : Nat, inn = n := ⟨inn.toNat, by omega⟩
    have hre2 := hre
    simp only [Int.toNat_natCast] at h2 h4 hre2 ⊢
    have hrg := rgr_of hgd h2 hre2
    have hgr := hrg.gr
    have hlen := hgr.len
    have hg12 := hgd.g12
    have hpow : 2 ^ c.gates.length ≤ 2 ^ 12 := Nat.pow_le_pow_right (by decide) hg12
    have hN : 1 <<< c.gates.length ≤ 4096 := by rw [one_shl]; omega
    
    refine gl_op (op_rd rfl (rd_move rfl) ?_)
    refine gl_op (op_rd rfl (rd_extract rfl rfl) ?_)
    refine gl_op (op_rd rfl (rd_extract rfl rfl) ?_)
    refine gl_op (op_alloc ty_91 rfl rfl (fun b8 => ?_))
    first | refine gl_op (op_storeAgg 0 ty_91 rfl rfl rfl rfl rfl rfl (by first | rfl | (simp only [List.set_cons_succ, List.set_cons_zero]; exact rfl)) ?_) | refine gl_op (op_storeAgg 5 ty_91 rfl rfl rfl rfl rfl rfl (by first | rfl | (simp only [List.set_cons_succ, List.set_cons_zero]; exact rfl)) ?_)
    refine gl_op (op_rd rfl (rd_assign rfl) ?_)
    refine gl_nil ?_
    refine gx_then ?_
    refine gc_seq ?_
    refine gc_region ?_
    refine gl_op (op_rd rfl (rd_assign rfl) ?_)
    refine gl_nil ?_
    refine gx_then ?_
    refine gc_seq ?_
    refine gc_seq ?_
    refine gc_region ?_
    refine gl_op (op_rd rfl (rd_assign rfl) ?_)
    refine gl_nil ?_
    refine gx_then ?_
    refine gc_block ?_
    refine gk_nil 3 1 ?_
    refine gc_loopF (ι := Nat × List Nat × Option Nat × Nat) [(2, _), (3, _), (8, _), (9, _)] [_, _, _, _, _, _] (fun j => j.1 ≤ 1 <<< c.gates.length ∧ j.2.1 = (List.range j.1).filter (restOk c im ns)) (fun j Fr0 => ((11, natV j.1) :: (10, .slice (rowA j.2.2.1) j.2.1.length j.2.2.2) :: Fr0)) (fun j Fr0 => (.row 3 1 j.2.2.1 j.2.1.length j.2.2.2 (j.2.1.map natV) :: Fr0)) (fun j => 1 <<< c.gates.length - j.1) (0, [], none, 0) (⟨Nat.zero_le _, rfl⟩) ⟨rfl, rfl, rfl, rfl, rfl, rfl, trivial⟩ ⟨[0, 1, 2, 3, 4, 5, 6], by decide, rfl⟩ ?_
    rintro ⟨i, fs, rf, cf⟩ ⟨hi, hfs⟩
    simp only at hi hfs ⊢
    have hfl := filter_range_le (restOk c im ns) i
    rw [← hfs] at hfl
    refine gc_seq ?_
    refine gc_seq ?_
    refine gc_region ?_
    refine gl_op (op_rd rfl (rd_move rfl) ?_)
    refine gl_op (op_rd rfl (rd_fieldAddr rfl (fa_91_3 _)) ?_)
    refine gl_op (op_rd rfl (rd_load Try.underlying23 rfl rfl (by first | exact ld_blk 1 rfl rfl | exact ld_blk 6 rfl rfl | exact ld_old (by assumption) (by simp) | exact ld_cells (by assumption) (by simp) rfl)) ?_)
    refine gl_op (op_rd rfl (rd_lenSlice Try.underlying23 rfl) ?_)
    refine gl_op (op_rd rfl (rd_lss rfl rfl) (gk_dec (fun hlt => ?_) (fun hlt => ?_)))
    · skip
      have hil : i < 1 <<< c.gates.length := by omega
      have hig : i < 2 ^ c.gates.length := by rw [← one_shl]; exact hil
      refine gl_nil ?_
      refine gx_then ?_
      refine gc_cond_t rfl ?_
      refine gc_skip ?_
      refine gx_then ?_
      refine gc_seq ?_
      refine gc_block ?_
      refine gc_seq ?_
      refine gc_region ?_
      refine gl_op (op_rd rfl (rd_fieldAddr rfl (fa_91_3 _)) ?_)
      refine gl_op (op_rd rfl (rd_load Try.underlying23 rfl rfl (by first | exact ld_blk 1 rfl rfl | exact ld_blk 6 rfl rfl | exact ld_old (by assumption) (by simp) | exact ld_cells (by assumption) (by simp) rfl)) ?_)
      refine gl_op (op_rd rfl (rd_move rfl) ?_)
      refine gl_op (op_rd rfl (rd_indexRow1 5 rfl Try.underlying23 ty_3 rfl rfl (by omega) (by omega)) ?_)
      refine gl_op (op_rd rfl (rd_load Try.underlying3 rfl rfl (ld_rowN 5 rfl (get_nats (by rw [place_len]; omega)))) ?_)
      rw [place_get hil]
      refine gl_op (op_rd rfl (rd_gtr rfl rfl) (gk_dec (fun hp31 => ?_) (fun hp31 => ?_)))
      · skip
        have hh : hasS ns i = true := by
          cases h : hasS ns i with
          | true => rfl
          | false => rw [pN_zero.2 h] at hp31; exact absurd hp31 (by decide)
        refine gl_op (op_rd rfl (rd_move rfl) ?_)
        refine gl_yes rfl rfl (op_rd rfl (rd_loadAgg Try.underlying25 rfl ty_25 rfl (by first | exact cs_blk 1 (off := 0) (k := 3) rfl rfl | exact cs_blk 6 (off := 0) (k := 3) rfl rfl | exact cs_old (by assumption) (by simp)) rfl) ?_)
        refine gl_yes rfl rfl (op_rd rfl (rd_move rfl) ?_)
        refine gl_yes rfl rfl (op_rd rfl (rd_move rfl) ?_)
        refine gl_yes rfl rfl (op_call rfl (vf := []) (vc := []) rfl rfl Try.call49 (fun w ho => rnext_ok c i im w (hc.at ho) hgd hig h4) ?_)
        rintro _ _ ⟨rk, ck, rfl, rfl⟩
        refine gl_yes rfl rfl (op_rd rfl (rd_lenSlice Try.underlying23 rfl) ?_)
        refine gl_yes rfl rfl (op_rd rfl (rd_eql rfl rfl) (gk_dec (fun hz => ?_) (fun hz => ?_)))
        · skip
          have hz2 : restOk c im ns i = true := by unfold restOk; rw [hh, decide_eq_true (List.eq_nil_of_length_eq_zero (by omega))]; rfl
          refine gl_op (op_rd rfl (rd_pick_t rfl rfl) ?_)
          refine gl_nil ?_
          refine gx_then ?_
          refine gc_cond_t rfl ?_
          refine gc_region ?_
          refine gl_op (op_rd rfl (rd_move rfl) ?_)
          refine gl_op (op_rd rfl (rd_move rfl) ?_)
          refine gl_op (op_buildSlice (sz := 1) rfl rfl (fun _ => bs_23_1_0 _) rfl rfl (fun b42 => ?_))
          refine gl_op (op_appendRow 2 0 Try.underlying23 ty_3 rfl (by decide) rfl rfl rfl rfl rfl (by simp [Value.oneCell']) (by omega) (by omega) (fun _ => (by first | rfl | (simp only [List.set_cons_succ, List.set_cons_zero]; exact rfl))) (fun r43 c43 => ?_))
          refine gl_op (op_rd rfl (rd_assign rfl) ?_)
          refine gl_nil ?_
          refine gx_block ?_
          refine gx_then ?_
          rw [snocN, snoc_len fs i]
          refine gc_region ?_
          refine gl_op (op_rd rfl (rd_move rfl) ?_)
          refine gl_op (op_rd rfl (by first | exact rd_addN (b := 1) rfl rfl (by omega) | exact rd_add rfl rfl (by omega) (by omega)) ?_)
          refine gl_op (op_rd rfl (rd_assign rfl) ?_)
          refine gl_nil ?_
          refine gx_then ?_
          exact gx_cut ((i + 1, fs ++ [i], r43, c43)) ⟨⟨by simp only; omega, by simp only; rw [filter_range_t _ hz2, hfs]⟩, by simp only; omega⟩ ⟨rfl, rfl, rfl, rfl, rfl, rfl, trivial⟩ ⟨[2, 3, 4, 5, 6, 7, 8], by decide, rfl⟩
        · skip
          have hz2 : restOk c im ns i = false := by unfold restOk; rw [hh, decide_eq_false (fun e => by rw [e] at hz; exact hz rfl)]; rfl
          refine gl_op (op_rd rfl (rd_pick_t rfl rfl) ?_)
          refine gl_nil ?_
          refine gx_then ?_
          refine gc_cond_f rfl ?_
          refine gc_skip ?_
          refine gx_block ?_
          refine gx_then ?_
          refine gc_region ?_
          refine gl_op (op_rd rfl (rd_move rfl) ?_)
          refine gl_op (op_rd rfl (by first | exact rd_addN (b := 1) rfl rfl (by omega) | exact rd_add rfl rfl (by omega) (by omega)) ?_)
          refine gl_op (op_rd rfl (rd_assign rfl) ?_)
          refine gl_nil ?_
          refine gx_then ?_
          exact gx_cut ((i + 1, fs, rf, cf)) ⟨⟨by simp only; omega, by simp only; rw [filter_range_f _ hz2, hfs]⟩, by simp only; omega⟩ ⟨rfl, rfl, rfl, rfl, rfl, rfl, trivial⟩ ⟨[1, 2, 3, 4, 5, 6, 7], by decide, rfl⟩
      · skip
        have hz2 : restOk c im ns i = false := by
          unfold restOk
          cases h : hasS ns i with
          | false => rfl
          | true => rw [pN_pos h] at hp31; exact absurd (by omega) hp31
        refine gl_op (op_rd rfl (rd_move rfl) ?_)
        refine gl_no rfl rfl rfl ?_
        refine gl_no rfl rfl rfl ?_
        refine gl_no rfl rfl rfl ?_
        refine gl_no rfl rfl rfl ?_
        refine gl_no rfl rfl rfl ?_
        refine gl_no rfl rfl rfl ?_
        refine gl_op (op_rd rfl (rd_pick_f rfl rfl) ?_)
        refine gl_nil ?_
        refine gx_then ?_
        refine gc_cond_f rfl ?_
        refine gc_skip ?_
        refine gx_block ?_
        refine gx_then ?_
        refine gc_region ?_
        refine gl_op (op_rd rfl (rd_move rfl) ?_)
        refine gl_op (op_rd rfl (by first | exact rd_addN (b := 1) rfl rfl (by omega) | exact rd_add rfl rfl (by omega) (by omega)) ?_)
        refine gl_op (op_rd rfl (rd_assign rfl) ?_)
        refine gl_nil ?_
        refine gx_then ?_
        exact gx_cut ((i + 1, fs, rf, cf)) ⟨⟨by simp only; omega, by simp only; rw [filter_range_f _ hz2, hfs]⟩, by simp only; omega⟩ ⟨rfl, rfl, rfl, rfl, rfl, rfl, trivial⟩ ⟨[0, 1, 2, 3, 4, 5, 6], by decide, rfl⟩
    · skip
      refine gl_nil ?_
      refine gx_then ?_
      refine gc_cond_f rfl ?_
      refine gc_exit ?_
      refine gx_then_exit ?_
      refine gx_then_exit ?_
      refine gx_block_exit ?_
      refine gx_then ?_
      refine gc_seq ?_
      refine gc_region ?_
      refine gl_op (op_rd rfl (rd_move rfl) ?_)
      refine gl_op (op_rd rfl (rd_move rfl) ?_)
      refine gl_op (op_rd rfl (rd_assign rfl) ?_)
      refine gl_op (op_rd rfl (rd_assign rfl) ?_)
      refine gl_nil ?_
      refine gx_then ?_
      refine gc_ret ?_
      refine gx_ret2 (.inl rfl) Try.results34 rfl rfl [0] (by decide) ?_
      rw [restsR_ok hr hre]
      simp only [Int.toNat_natCast]
      rw [show restL c im ns = fs by rw [hfs, show i = 1 <<< c.gates.length by omega]; rfl]
      exact ⟨rf, cf, rfl, rfl⟩
  · skip
    refine gl_op (op_rd rfl (rd_move rfl) ?_)
    refine gl_op (op_rd rfl (rd_extract rfl rfl) ?_)
    refine gl_op (op_rd rfl (rd_extract rfl rfl) ?_)
    refine gl_op (op_alloc ty_91 rfl rfl (fun b8 => ?_))
    first | refine gl_op (op_storeAgg 0 ty_91 rfl rfl rfl rfl rfl rfl (by first | rfl | (simp only [List.set_cons_succ, List.set_cons_zero]; exact rfl)) ?_) | refine gl_op (op_storeAgg 1 ty_91 rfl rfl rfl rfl rfl rfl (by first | rfl | (simp only [List.set_cons_succ, List.set_cons_zero]; exact rfl)) ?_)
    refine gl_op (op_rd rfl (rd_assign rfl) ?_)
    refine gl_nil ?_
    refine gx_then ?_
    refine gc_seq ?_
    refine gc_region ?_
    refine gl_op (op_rd rfl (rd_assign rfl) ?_)
    refine gl_nil ?_
    refine gx_then ?_
    refine gc_seq ?_
    refine gc_seq ?_
    refine gk_nil 3 1 ?_
    refine gc_region ?_
    refine gl_op (op_rd rfl (rd_assign rfl) ?_)
    refine gl_nil ?_
    refine gx_then ?_
    refine gc_block ?_
    refine gc_loopF (ι := Nat) [(2, _), (3, _), (8, _), (9, _)] [_, _, _] (fun j => j = 0) (fun j Fr0 => ((11, natV j) :: (10, .slice none 0 0) :: Fr0)) (fun j Fr0 => Fr0) (fun j => j) 0 (rfl) ⟨rfl, rfl, rfl, rfl, rfl, rfl, trivial⟩ ⟨[0, 1, 2], by decide, rfl⟩ ?_
    rintro j hj
    subst hj
    refine gc_seq ?_
    refine gc_seq ?_
    refine gc_region ?_
    refine gl_op (op_rd rfl (rd_move rfl) ?_)
    refine gl_op (op_rd rfl (rd_fieldAddr rfl (fa_91_3 _)) ?_)
    refine gl_op (op_rd rfl (rd_load Try.underlying23 rfl rfl (by first | exact ld_blk 1 rfl rfl | exact ld_blk 2 rfl rfl | exact ld_old (by assumption) (by simp) | exact ld_cells (by assumption) (by simp) rfl)) ?_)
    refine gl_op (op_rd rfl (rd_lenSlice Try.underlying23 rfl) ?_)
    refine gl_op (op_rd rfl (rd_lss rfl rfl) (gk_dec (fun hlt => ?_) (fun hlt => ?_)))
    · skip
      exfalso; omega
    · skip
      refine gl_nil ?_
      refine gx_then ?_
      refine gc_cond_f rfl ?_
      refine gc_exit ?_
      refine gx_then_exit ?_
      refine gx_then_exit ?_
      refine gx_block_exit ?_
      refine gx_then ?_
      refine gc_seq ?_
      refine gc_region ?_
      refine gl_op (op_rd rfl (rd_move rfl) ?_)
      refine gl_op (op_rd rfl (rd_move rfl) ?_)
      refine gl_op (op_rd rfl (rd_assign rfl) ?_)
      refine gl_op (op_rd rfl (rd_assign rfl) ?_)
      refine gl_nil ?_
      refine gx_then ?_
      refine gc_ret ?_
      refine gx_ret2 (.inl rfl) Try.results34 rfl rfl [0] (by decide) ?_
      rw [restsR_full hr hre]
      exact ⟨none, 0, rfl, rfl⟩
  · skip
    refine gl_op (op_rd rfl (rd_move rfl) ?_)
    refine gl_op (op_rd rfl (rd_extract rfl rfl) ?_)
    refine gl_op (op_rd rfl (rd_extract rfl rfl) ?_)
    refine gl_op (op_alloc ty_91 rfl rfl (fun b8 => ?_))
    first | refine gl_op (op_storeAgg 0 ty_91 rfl rfl rfl rfl rfl rfl (by first | rfl | (simp only [List.set_cons_succ, List.set_cons_zero]; exact rfl)) ?_) | refine gl_op (op_storeAgg 1 ty_91 rfl rfl rfl rfl rfl rfl (by first | rfl | (simp only [List.set_cons_succ, List.set_cons_zero]; exact rfl)) ?_)
    refine gl_op (op_rd rfl (rd_assign rfl) ?_)
    refine gl_nil ?_
    refine gx_then ?_
    refine gc_seq ?_
    refine gc_region ?_
    refine gl_op (op_rd rfl (rd_assign rfl) ?_)
    refine gl_nil ?_
    refine gx_then ?_
    refine gc_seq ?_
    refine gc_seq ?_
    refine gk_nil 3 1 ?_
    refine gc_region ?_
    refine gl_op (op_rd rfl (rd_assign rfl) ?_)
    refine gl_nil ?_
    refine gx_then ?_
    refine gc_block ?_
    refine gc_loopF (ι := Nat) [(2, _), (3, _), (8, _), (9, _)] [_, _, _] (fun j => j = 0) (fun j Fr0 => ((11, natV j) :: (10, .slice none 0 0) :: Fr0)) (fun j Fr0 => Fr0) (fun j => j) 0 (rfl) ⟨rfl, rfl, rfl, rfl, rfl, rfl, trivial⟩ ⟨[0, 1, 2], by decide, rfl⟩ ?_
    rintro j hj
    subst hj
    refine gc_seq ?_
    refine gc_seq ?_
    refine gc_region ?_
    refine gl_op (op_rd rfl (rd_move rfl) ?_)
    refine gl_op (op_rd rfl (rd_fieldAddr rfl (fa_91_3 _)) ?_)
    refine gl_op (op_rd rfl (rd_load Try.underlying23 rfl rfl (by first | exact ld_blk 1 rfl rfl | exact ld_blk 2 rfl rfl | exact ld_old (by assumption) (by simp) | exact ld_cells (by assumption) (by simp) rfl)) ?_)
    refine gl_op (op_rd rfl (rd_lenSlice Try.underlying23 rfl) ?_)
    refine gl_op (op_rd rfl (rd_lss rfl rfl) (gk_dec (fun hlt => ?_) (fun hlt => ?_)))
    · skip
      exfalso; omega
    · skip
      refine gl_nil ?_
      refine gx_then ?_
      refine gc_cond_f rfl ?_
      refine gc_exit ?_
      refine gx_then_exit ?_
      refine gx_then_exit ?_
      refine gx_block_exit ?_
      refine gx_then ?_
      refine gc_seq ?_
      refine gc_region ?_
      refine gl_op (op_rd rfl (rd_move rfl) ?_)
      refine gl_op (op_rd rfl (rd_move rfl) ?_)
      refine gl_op (op_rd rfl (rd_assign rfl) ?_)
      refine gl_op (op_rd rfl (rd_assign rfl) ?_)
      refine gl_nil ?_
      refine gx_then ?_
      refine gc_ret ?_
      refine gx_ret2 (.inl rfl) Try.results34 rfl rfl [0] (by decide) ?_
      rw [restsR_bad hr]
      exact ⟨none, 0, rfl, rfl⟩

set_option maxRecDepth 100000 in
set_option maxHeartbeats 1000000 in
theorem rGlitches_ok (c : Circ) (st inn : Int) (w0 : World) (hc : c.In w0 []) (hst : st ≤ 9223372036854775807) (hin : inn ≤ 9223372036854775807) : Sp Try.prog 37 [c.val, .int .i64 st, .int .i64 inn] w0 [] (fun v l => ∃ r cp, v = .tuple #[.slice (rowA r) (glitchesR c st inn).1.length cp, .int .i64 (glitchesR c st inn).2] ∧ l = [.row 3 1 r (glitchesR c st inn).1.length cp ((glitchesR c st inn).1.map natV)]) := by
  refine spec_enter Try.func37 rfl Try.ntmps37 rfl (Own.refl _) ?_
  simp only [argEnv]
  refine gc_seq ?_
  refine gc_region ?_
  refine gl_op (op_box rfl rfl rfl (fun b3 => ?_))
  refine gl_op (op_rd rfl (rd_assign rfl) ?_)
  refine gl_op (op_rd rfl (rd_assign rfl) ?_)
  refine gl_nil ?_
  refine gx_then ?_
  refine gc_seq ?_
  refine gc_region ?_
  refine gl_op (op_rd rfl (rd_loadAgg Try.underlying25 rfl ty_25 rfl (by first | exact cs_blk 0 (off := 0) (k := 3) rfl rfl | exact cs_old (by assumption) (by simp)) rfl) ?_)
  refine gl_op (op_rd rfl (rd_move rfl) ?_)
  refine gl_op (op_rd rfl (rd_move rfl) ?_)
  refine gl_op (op_call rfl (vf := []) (vc := []) rfl rfl Try.call61 (fun w ho => rexplore_ok c st inn w (hc.at ho) hst hin) ?_)
  rintro _ _ (⟨hr, ns, rs, cs, rf, cf, rg, cg, bp, hre, rfl, rfl⟩ | ⟨hr, hre, rfl, rfl⟩ | ⟨hr, rfl, rfl⟩)
  · skip
    obtain ⟨hck, h1, h2, h3, h4⟩ := Circ.of_ready hr
    have hgd := Circ.good hck
    obtain ⟨sn, rfl⟩ : ∃ n : Nat, st = n := ⟨st.toNat, by omega⟩
    obtain ⟨im, rfl⟩ : ∃ n : Nat, inn = n := ⟨inn.toNat, by omega⟩
    have hre2 := hre
    simp only [Int.toNat_natCast] at h2 h4 hre2 ⊢
    have hrg := rgr_of hgd h2 hre2
    have hgr := hrg.gr
    have hlen := hgr.len
    refine gl_op (op_rd rfl (rd_move rfl) ?_)
    refine gl_op (op_rd rfl (rd_extract rfl rfl) ?_)
    refine gl_op (op_rd rfl (rd_extract rfl rfl) ?_)
    refine gl_op (op_alloc ty_91 rfl rfl (fun b8 => ?_))
    first | refine gl_op (op_storeAgg 0 ty_91 rfl rfl rfl rfl rfl rfl (by first | rfl | (simp only [List.set_cons_succ, List.set_cons_zero]; exact rfl)) ?_) | refine gl_op (op_storeAgg 5 ty_91 rfl rfl rfl rfl rfl rfl (by first | rfl | (simp only [List.set_cons_succ, List.set_cons_zero]; exact rfl)) ?_)
    refine gl_op (op_rd rfl (rd_assign rfl) ?_)
    refine gl_nil ?_
    refine gx_then ?_
    refine gc_seq ?_
    refine gc_seq ?_
    refine gc_region ?_
    refine gl_op (op_rd rfl (rd_move rfl) ?_)
    refine gl_op (op_rd rfl (rd_neq rfl rfl) (gk_dec (fun he => ?_) (fun he => ?_)))
    · skip
      exact absurd he (by simp)
    · skip
      refine gl_nil ?_
      refine gx_then ?_
      refine gc_cond_f rfl ?_
      refine gc_skip ?_
      refine gx_then ?_
      refine gc_seq ?_
      refine gc_seq ?_
      refine gc_region ?_
      refine gl_op (op_rd rfl (rd_loadAgg Try.underlying25 rfl ty_25 rfl (by first | exact cs_blk 0 (off := 0) (k := 3) rfl rfl | exact cs_blk 5 (off := 0) (k := 3) rfl rfl | exact cs_old (by assumption) (by simp)) rfl) ?_)
      refine gl_op (op_rd rfl (rd_loadAgg Try.underlying91 rfl ty_91 rfl (by first | exact cs_blk 0 (off := 0) (k := 4) rfl rfl | exact cs_blk 5 (off := 0) (k := 4) rfl rfl | exact cs_old (by assumption) (by simp)) rfl) ?_)
      refine gl_op (op_rd rfl (rd_move rfl) ?_)
      refine gl_op (op_call rfl (vf := []) (vc := []) rfl rfl Try.call62 (fun w ho => rrace_ok c im ns ⟨rowA rs, cs, rowA rf, cf, rowA rg, cg, rowA (some bp)⟩ w (RIn.mk' ho 1 2 3 4 rfl rfl rfl rfl) (hc.at ho) hgd h4 hrg) ?_)
      rintro _ _ ⟨ra, ca, rb, cb, rfl, rfl⟩
      refine gl_op (op_rd rfl (rd_field rfl (fd_40_0 _ _ _ _ _ _ _)) ?_)
      refine gl_op (op_rd rfl (rd_neq rfl rfl) (gk_dec (fun hk => ?_) (fun hk => ?_)))
      · skip
        have hk2 : (raceP c im ns).kind ≠ 0 := by omega
        refine gl_nil ?_
        refine gx_then ?_
        refine gc_cond_t rfl ?_
        refine gc_seq ?_
        refine gk_nil 3 1 ?_
        refine gc_region ?_
        refine gl_op (op_rd rfl (rd_assign rfl) ?_)
        refine gl_op (op_rd rfl (rd_assign rfl) ?_)
        refine gl_nil ?_
        refine gx_then ?_
        refine gc_ret ?_
        refine gx_then_ret ?_
        refine gx_ret2 (.inl rfl) Try.results37 rfl rfl [0] (by decide) ?_
        rw [glitchesR_race hr hre (by simpa using hk2)]
        exact ⟨none, 0, rfl, rfl⟩
      · skip
        have hk2 : (raceP c im ns).kind = 0 := by omega
        have hg12 := hgd.g12
        refine gl_nil ?_
        refine gx_then ?_
        refine gc_cond_f rfl ?_
        refine gc_skip ?_
        refine gx_then ?_
        refine gc_seq ?_
        refine gc_region ?_
        refine gl_op (op_rd rfl (rd_assign rfl) ?_)
        refine gl_nil ?_
        refine gx_then ?_
        refine gc_seq ?_
        refine gc_seq ?_
        refine gc_region ?_
        refine gl_op (op_rd rfl (rd_assign rfl) ?_)
        refine gl_nil ?_
        refine gx_then ?_
        refine gc_block ?_
        refine gk_nil 3 1 ?_
        refine gc_loopF (ι := Nat × List Nat × Option Nat × Nat) [(2, _), (3, _), (8, _)] [_, _, _, _, _, _, _, _] (fun j => j.1 ≤ c.gates.length ∧ j.2.1 = (List.range j.1).filter (glitchAt c im ns)) (fun j Fr0 => ((11, natV j.1) :: (10, .slice (rowA j.2.2.1) j.2.1.length j.2.2.2) :: Fr0)) (fun j Fr0 => (.row 3 1 j.2.2.1 j.2.1.length j.2.2.2 (j.2.1.map natV) :: Fr0)) (fun j => c.gates.length - j.1) (0, [], none, 0) (⟨Nat.zero_le _, rfl⟩) ⟨rfl, rfl, rfl, rfl, rfl, trivial⟩ ⟨[0, 1, 2, 3, 4, 5, 6, 7, 8], by decide, rfl⟩ ?_
        rintro ⟨k, fs, ro, co⟩ ⟨hkk, hfs⟩
        simp only at hkk hfs ⊢
        have hfl := filter_range_le (glitchAt c im ns) k
        rw [← hfs] at hfl
        refine gc_seq ?_
        refine gc_seq ?_
        refine gc_region ?_
        refine gl_op (op_rd rfl (rd_move rfl) ?_)
        refine gl_op (op_rd rfl (rd_fieldAddr rfl (fa_25_1 _)) ?_)
        refine gl_op (op_rd rfl (rd_load Try.underlying22 rfl rfl (by first | exact ld_blk 3 rfl rfl | exact ld_blk 8 rfl rfl | exact ld_old (by assumption) (by simp) | exact ld_cells (by assumption) (by simp) rfl)) ?_)
        refine gl_op (op_rd rfl (rd_lenSlice Try.underlying22 rfl) ?_)
        refine gl_op (op_rd rfl (rd_lss rfl rfl) (gk_dec (fun hlt => ?_) (fun hlt => ?_)))
        · skip
          have hkg : k < c.gates.length := by omega
          obtain ⟨ms, hms, hml⟩ := (facts c im h4 hgd).glit sn ns k h2 hre2
          refine gl_nil ?_
          refine gx_then ?_
          refine gc_cond_t rfl ?_
          refine gc_skip ?_
          refine gx_then ?_
          refine gc_seq ?_
          refine gc_block ?_
          refine gc_seq ?_
          refine gc_region ?_
          refine gl_op (op_rd rfl (rd_assign rfl) ?_)
          refine gl_nil ?_
          refine gx_then ?_
          refine gc_seq ?_
          refine gc_seq ?_
          refine gc_region ?_
          refine gl_op (op_rd rfl (rd_assign rfl) ?_)
          refine gl_nil ?_
          refine gx_then ?_
          refine gc_block ?_
          refine gk_nil 3 1 ?_
          refine gc_loopF (ι := Nat × List Nat × Option Nat × Nat) [(2, _), (3, _), (8, _), (10, _), (11, _)] [_, _, _, _, _, _, _, _, _] (fun j => j.1 ≤ ns.length ∧ j.2.1 = afterP c im (ns.take j.1) k) (fun j Fr0 => ((13, natV j.1) :: (12, .slice (rowA j.2.2.1) j.2.1.length j.2.2.2) :: Fr0)) (fun j Fr0 => (.row 3 1 j.2.2.1 j.2.1.length j.2.2.2 (j.2.1.map natV) :: Fr0)) (fun j => ns.length - j.1) (0, [], none, 0) (⟨Nat.zero_le _, rfl⟩) ⟨rfl, rfl, rfl, rfl, rfl, rfl, rfl, trivial⟩ ⟨[0, 1, 2, 3, 4, 5, 6, 7, 8, 9], by decide, rfl⟩ ?_
          rintro ⟨i, fa, ra2, ca2⟩ ⟨hi, hfa⟩
          simp only at hi hfa ⊢
          have hal := afterP_len (c := c) (inn := im) (ns := ns.take i) k
          rw [← hfa, List.length_take] at hal
          refine gc_seq ?_
          refine gc_seq ?_
          refine gc_region ?_
          refine gl_op (op_rd rfl (rd_move rfl) ?_)
          refine gl_op (op_rd rfl (rd_fieldAddr rfl (fa_91_0 _)) ?_)
          refine gl_op (op_rd rfl (rd_load Try.underlying23 rfl rfl (by first | exact ld_blk 4 rfl rfl | exact ld_blk 9 rfl rfl | exact ld_old (by assumption) (by simp) | exact ld_cells (by assumption) (by simp) rfl)) ?_)
          refine gl_op (op_rd rfl (rd_lenSlice Try.underlying23 rfl) ?_)
          refine gl_op (op_rd rfl (rd_lss rfl rfl) (gk_dec (fun hlt2 => ?_) (fun hlt2 => ?_)))
          · skip
            obtain ⟨x, hx⟩ : ∃ y, ns[i]? = some y := ⟨ns[i]'(by omega), List.getElem?_eq_getElem (by omega)⟩
            have hxs := hgr.st x (List.mem_of_getElem? hx)
            have hxs2 := st_lt hgd hxs
            refine gl_nil ?_
            refine gx_then ?_
            refine gc_cond_t rfl ?_
            refine gc_skip ?_
            refine gx_then ?_
            refine gc_seq ?_
            refine gc_block ?_
            refine gc_seq ?_
            refine gc_drawP [0, 1, 2, 3, 4, 5, 6, 7, 8, 9] true 9 rfl ?_
            refine ga_first 0 #[true, false, false, false, false, false, false, false, false, false] rfl rfl rfl rfl (by kernel_rfl) rfl ⟨[0, 1, 2, 3, 4, 5, 6, 7, 8, 9], by decide, rfl⟩ (qt_rd (rd_loadAgg Try.underlying25 rfl ty_25 rfl (by first | exact cs_blk 4 (off := 0) (k := 3) rfl rfl | exact cs_blk 9 (off := 0) (k := 3) rfl rfl | exact cs_old (by assumption) (by simp)) rfl)) ?_
            refine ga_first 1 #[true, true, false, false, false, false, false, false, false, false] rfl rfl rfl rfl (by kernel_rfl) rfl ⟨[0, 1, 2, 3, 4, 5, 6, 7, 8, 9], by decide, rfl⟩ (qt_rd (rd_fieldAddr rfl (fa_91_0 _))) ?_
            refine ga_first 2 #[true, true, true, false, false, false, false, false, false, false] rfl rfl rfl rfl (by kernel_rfl) rfl ⟨[0, 1, 2, 3, 4, 5, 6, 7, 8, 9], by decide, rfl⟩ (qt_rd (rd_load Try.underlying23 rfl rfl (by first | exact ld_blk 4 rfl rfl | exact ld_blk 9 rfl rfl | exact ld_old (by assumption) (by simp) | exact ld_cells (by assumption) (by simp) rfl))) ?_
            refine ga_first 3 #[true, true, true, true, false, false, false, false, false, false] rfl rfl rfl rfl (by kernel_rfl) rfl ⟨[0, 1, 2, 3, 4, 5, 6, 7, 8, 9], by decide, rfl⟩ (qt_rd (rd_move rfl)) ?_
            refine ga_first 4 #[true, true, true, true, true, false, false, false, false, false] rfl rfl rfl rfl (by kernel_rfl) rfl ⟨[0, 1, 2, 3, 4, 5, 6, 7, 8, 9], by decide, rfl⟩ (qt_rd (by first | exact rd_indexRow1 0 rfl Try.underlying23 ty_3 rfl rfl (by omega) (by omega) | exact rd_indexRow1 1 rfl Try.underlying23 ty_3 rfl rfl (by omega) (by omega) | exact rd_indexRow1 2 rfl Try.underlying23 ty_3 rfl rfl (by omega) (by omega) | exact rd_indexRow1 3 rfl Try.underlying23 ty_3 rfl rfl (by omega) (by omega) | exact rd_indexRow1 5 rfl Try.underlying23 ty_3 rfl rfl (by omega) (by omega) | exact rd_indexRow1 6 rfl Try.underlying23 ty_3 rfl rfl (by omega) (by omega) | exact rd_indexRow1 7 rfl Try.underlying23 ty_3 rfl rfl (by omega) (by omega) | exact rd_indexRow1 8 rfl Try.underlying23 ty_3 rfl rfl (by omega) (by omega) | exact rd_indexOld1 (by assumption) Try.underlying23 ty_3 rfl rfl (by omega) (by omega) | exact rd_index1 Try.underlying23 ty_3 rfl rfl (by omega) (by omega))) ?_
            refine ga_first 5 #[true, true, true, true, true, true, false, false, false, false] rfl rfl rfl rfl (by kernel_rfl) rfl ⟨[0, 1, 2, 3, 4, 5, 6, 7, 8, 9], by decide, rfl⟩ (qt_rd (rd_load Try.underlying3 rfl rfl (ld_rowN 5 rfl (get_sV hx)))) ?_
            refine ga_first 6 #[true, true, true, true, true, true, true, false, false, false] rfl rfl rfl rfl (by kernel_rfl) rfl ⟨[0, 1, 2, 3, 4, 5, 6, 7, 8, 9], by decide, rfl⟩ (qt_rd (rd_move rfl)) ?_
            refine ga_first 8 #[true, true, true, true, true, true, true, false, true, false] rfl rfl rfl rfl (by kernel_rfl) rfl ⟨[0, 1, 2, 3, 4, 5, 6, 7, 8, 9], by decide, rfl⟩ (qt_rd (rd_move rfl)) ?_
            refine ga_only 7 #[true, true, true, true, true, true, true, true, true, false] rfl rfl (by kernel_rfl) rfl (.inr ⟨[0, 1, 2, 3, 4, 5, 6, 7, 8, 9], by decide, rfl⟩) (op_call rfl (vf := []) (vc := []) rfl rfl Try.call49 (fun w ho => rnext_ok c x.state im w (hc.at ho) hgd hxs h4) ?_)
            rintro _ _ ⟨rk, ck, rfl, rfl⟩
            have hkl := nextL_len c x.state im
            obtain ⟨ks, hks⟩ : ∃ ks, nextL c x.state im = ks := ⟨_, rfl⟩
            rw [hks] at hkl ⊢
            refine ga_only 9 #[true, true, true, true, true, true, true, true, true, true] rfl rfl (by kernel_rfl) rfl (.inr ⟨[1, 2, 3, 4, 5, 6, 7, 8, 9, 10], by decide, rfl⟩) (op_call rfl (vf := []) (vc := []) rfl rfl Try.call64 (fun w ho => rhas_nats_ok ks (rowA rk) ck k w (ho.rowSl 0 rfl) (by omega)) ?_)
            rintro _ _ ⟨rfl, rfl⟩
            refine gk_bool (fun hb => ?_) (fun hb => ?_)
            · skip
              have hb2 : (nextM c x.state im).testBit k = true := by rw [← mem_test hgd, hks]; exact hb
              refine ga_end (by kernel_rfl) (.inr ⟨[1, 2, 3, 4, 5, 6, 7, 8, 9, 10], by decide, rfl⟩) ?_
              refine gx_then ?_
              refine gc_cond_t rfl ?_
              refine gc_region ?_
              refine gl_op (op_rd rfl (rd_move rfl) ?_)
              refine gl_op (op_rd rfl (rd_fieldAddr rfl (fa_91_0 _)) ?_)
              refine gl_op (op_rd rfl (rd_load Try.underlying23 rfl rfl (by first | exact ld_blk 5 rfl rfl | exact ld_blk 10 rfl rfl | exact ld_old (by assumption) (by simp) | exact ld_cells (by assumption) (by simp) rfl)) ?_)
              refine gl_op (op_rd rfl (rd_move rfl) ?_)
              refine gl_op (op_rd rfl (by first | exact rd_indexRow1 0 rfl Try.underlying23 ty_3 rfl rfl (by omega) (by omega) | exact rd_indexRow1 1 rfl Try.underlying23 ty_3 rfl rfl (by omega) (by omega) | exact rd_indexRow1 2 rfl Try.underlying23 ty_3 rfl rfl (by omega) (by omega) | exact rd_indexRow1 3 rfl Try.underlying23 ty_3 rfl rfl (by omega) (by omega) | exact rd_indexRow1 4 rfl Try.underlying23 ty_3 rfl rfl (by omega) (by omega) | exact rd_indexRow1 6 rfl Try.underlying23 ty_3 rfl rfl (by omega) (by omega) | exact rd_indexRow1 7 rfl Try.underlying23 ty_3 rfl rfl (by omega) (by omega) | exact rd_indexRow1 8 rfl Try.underlying23 ty_3 rfl rfl (by omega) (by omega) | exact rd_indexRow1 9 rfl Try.underlying23 ty_3 rfl rfl (by omega) (by omega) | exact rd_indexOld1 (by assumption) Try.underlying23 ty_3 rfl rfl (by omega) (by omega) | exact rd_index1 Try.underlying23 ty_3 rfl rfl (by omega) (by omega)) ?_)
              refine gl_op (op_rd rfl (rd_load Try.underlying3 rfl rfl (ld_rowN 6 rfl (get_sV hx))) ?_)
              refine gl_op (op_rd rfl (rd_move rfl) ?_)
              refine gl_op (op_call rfl (vf := []) (vc := []) rfl rfl Try.call66 (fun w ho => rswitched_ok x.state k w hxs2 (by omega)) ?_)
              rintro _ _ ⟨rfl, rfl⟩
              refine gl_op (op_buildSlice (sz := 1) rfl rfl (fun _ => bs_23_1_0 _) rfl rfl (fun b65 => ?_))
              refine gl_op (op_appendRow 2 0 Try.underlying23 ty_3 rfl (by decide) rfl rfl rfl rfl rfl (by simp [Value.oneCell']) (by omega) (by omega) (fun _ => (by first | rfl | (simp only [List.set_cons_succ, List.set_cons_zero]; exact rfl))) (fun r66 c66 => ?_))
              refine gl_op (op_rd rfl (rd_assign rfl) ?_)
              refine gl_nil ?_
              refine gx_block ?_
              refine gx_then ?_
              rw [snocN, snoc_len fa (flip x.state k)]
              refine gc_region ?_
              refine gl_op (op_rd rfl (rd_move rfl) ?_)
              refine gl_op (op_rd rfl (by first | exact rd_addN (b := 1) rfl rfl (by omega) | exact rd_add rfl rfl (by omega) (by omega)) ?_)
              refine gl_op (op_rd rfl (rd_assign rfl) ?_)
              refine gl_nil ?_
              refine gx_then ?_
              exact gx_cut ((i + 1, fa ++ [flip x.state k], r66, c66)) ⟨⟨by simp only; omega, by simp only; rw [afterP_t hx hb2, hfa]⟩, by simp only; omega⟩ ⟨rfl, rfl, rfl, rfl, rfl, rfl, rfl, trivial⟩ ⟨[2, 3, 4, 5, 6, 7, 8, 9, 10, 11], by decide, rfl⟩
            · skip
              have hb2 : (nextM c x.state im).testBit k = false := by rw [← mem_test hgd, hks]; exact hb
              refine ga_end (by kernel_rfl) (.inr ⟨[1, 2, 3, 4, 5, 6, 7, 8, 9, 10], by decide, rfl⟩) ?_
              refine gx_then ?_
              refine gc_cond_f rfl ?_
              refine gc_skip ?_
              refine gx_block ?_
              refine gx_then ?_
              refine gc_region ?_
              refine gl_op (op_rd rfl (rd_move rfl) ?_)
              refine gl_op (op_rd rfl (by first | exact rd_addN (b := 1) rfl rfl (by omega) | exact rd_add rfl rfl (by omega) (by omega)) ?_)
              refine gl_op (op_rd rfl (rd_assign rfl) ?_)
              refine gl_nil ?_
              refine gx_then ?_
              exact gx_cut ((i + 1, fa, ra2, ca2)) ⟨⟨by simp only; omega, by simp only; rw [afterP_f hx hb2, hfa]⟩, by simp only; omega⟩ ⟨rfl, rfl, rfl, rfl, rfl, rfl, rfl, trivial⟩ ⟨[1, 2, 3, 4, 5, 6, 7, 8, 9, 10], by decide, rfl⟩
          · skip
            refine gl_nil ?_
            refine gx_then ?_
            refine gc_cond_f rfl ?_
            refine gc_exit ?_
            refine gx_then_exit ?_
            refine gx_then_exit ?_
            refine gx_block_exit ?_
            refine gx_then ?_
            refine gc_seq ?_
            have hie : i = ns.length := by omega
            subst hie
            rw [List.take_length] at hfa
            subst hfa
            refine gc_region ?_
            refine gl_op (op_rd rfl (rd_loadAgg Try.underlying25 rfl ty_25 rfl (by first | exact cs_blk 4 (off := 0) (k := 3) rfl rfl | exact cs_blk 9 (off := 0) (k := 3) rfl rfl | exact cs_old (by assumption) (by simp)) rfl) ?_)
            refine gl_op (op_rd rfl (rd_move rfl) ?_)
            refine gl_op (op_rd rfl (rd_move rfl) ?_)
            refine gl_op (op_call rfl (vf := []) (vc := []) rfl rfl Try.call67 (fun w ho => rreachS_ok c (afterP c im ns k) (rowA ra2) ca2 im ms w (hc.at ho) hgd h4 (ho.rowSl 0 rfl) (afterP_lt hgr.st hkg) (by have := afterP_len (c := c) (inn := im) (ns := ns) k; omega) hms) ?_)
            rintro _ _ ⟨rs2, cs2, rf2, cf2, rg2, cg2, bp2, rfl, rfl⟩
            have hga := glitchAt_of hms
            have hmst : ∀ y ∈ ms, y.state < 2 ^ c.gates.length := (reach_spec (U := (· < 2 ^ c.gates.length)) (closed_lt hgd) (afterP_lt hgr.st hkg) hms).u
            refine gl_op (op_alloc ty_91 rfl rfl (fun b14 => ?_))
            first | refine gl_op (op_storeAgg 0 ty_91 rfl rfl rfl rfl rfl rfl (by first | rfl | (simp only [List.set_cons_succ, List.set_cons_zero]; exact rfl)) ?_) | refine gl_op (op_storeAgg 9 ty_91 rfl rfl rfl rfl rfl rfl (by first | rfl | (simp only [List.set_cons_succ, List.set_cons_zero]; exact rfl)) ?_) | refine gl_op (op_storeAgg 14 ty_91 rfl rfl rfl rfl rfl rfl (by first | rfl | (simp only [List.set_cons_succ, List.set_cons_zero]; exact rfl)) ?_)
            refine gl_nil ?_
            refine gx_then ?_
            refine gc_seq ?_
            refine gc_region ?_
            refine gl_op (op_rd rfl (rd_assign rfl) ?_)
            refine gl_nil ?_
            refine gx_then ?_
            refine gc_seq ?_
            refine gc_seq ?_
            refine gc_region ?_
            refine gl_op (op_rd rfl (rd_assign rfl) ?_)
            refine gl_nil ?_
            refine gx_then ?_
            refine gc_block ?_
            refine gc_loopF (ι := Nat × Bool) [(2, _), (3, _), (8, _), (10, _), (11, _), (14, _)] [_, _, _, _, _, _, _, _, _, _, _, _, _, _, _] (fun j => j.1 ≤ ms.length ∧ j.2 = (ms.take j.1).any fun x => (nextM c x.state im).testBit k) (fun j Fr0 => ((16, natV j.1) :: (15, .bool j.2) :: Fr0)) (fun j Fr0 => Fr0) (fun j => ms.length - j.1) (0, false) (⟨Nat.zero_le _, rfl⟩) ⟨rfl, rfl, rfl, rfl, rfl, rfl, rfl, rfl, trivial⟩ ⟨[0, 1, 2, 3, 4, 5, 6, 7, 8, 9, 10, 11, 12, 13, 14], by decide, rfl⟩ ?_
            rintro ⟨i, tw⟩ ⟨hi2, htw⟩
            simp only at hi2 htw ⊢
            refine gc_seq ?_
            refine gc_seq ?_
            refine gc_region ?_
            refine gl_op (op_rd rfl (rd_move rfl) ?_)
            refine gl_op (op_rd rfl (rd_fieldAddr rfl (fa_91_0 _)) ?_)
            refine gl_op (op_rd rfl (rd_load Try.underlying23 rfl rfl (by first | exact ld_blk 0 rfl rfl | exact ld_blk 9 rfl rfl | exact ld_blk 14 rfl rfl | exact ld_old (by assumption) (by simp) | exact ld_cells (by assumption) (by simp) rfl)) ?_)
            refine gl_op (op_rd rfl (rd_lenSlice Try.underlying23 rfl) ?_)
            refine gl_op (op_rd rfl (rd_lss rfl rfl) (gk_dec (fun hlt3 => ?_) (fun hlt3 => ?_)))
            · skip
              obtain ⟨x, hx⟩ : ∃ y, ms[i]? = some y := ⟨ms[i]'(by omega), List.getElem?_eq_getElem (by omega)⟩
              have hxs := hmst x (List.mem_of_getElem? hx)
              have hxs2 := st_lt hgd hxs
              refine gl_nil ?_
              refine gx_then ?_
              refine gc_cond_t rfl ?_
              refine gc_skip ?_
              refine gx_then ?_
              refine gc_seq ?_
              refine gc_block ?_
              refine gc_drawP [0, 1, 2, 3, 4, 5, 6, 7, 8, 9, 10, 11, 12, 13, 14] true 13 rfl ?_
              refine ga_first 0 #[true, false, false, false, false, false, false, false, false, false, false, false, false, false] rfl rfl rfl rfl (by kernel_rfl) rfl ⟨[0, 1, 2, 3, 4, 5, 6, 7, 8, 9, 10, 11, 12, 13, 14], by decide, rfl⟩ (qt_rd (rd_move rfl)) ?_
              refine gk_bool (fun h78 => ?_) (fun h78 => ?_)
              · skip
                refine ga_first 1 #[true, true, false, false, false, false, false, false, false, false, false, false, false, false] rfl rfl rfl rfl (by kernel_rfl) rfl ⟨[0, 1, 2, 3, 4, 5, 6, 7, 8, 9, 10, 11, 12, 13, 14], by decide, rfl⟩ (qt_rd (rd_move rfl)) ?_
                refine ga_firstN 2 #[true, true, true, false, false, false, false, false, false, false, false, false, false, false] rfl rfl rfl rfl rfl rfl (by kernel_rfl) rfl ⟨[0, 1, 2, 3, 4, 5, 6, 7, 8, 9, 10, 11, 12, 13, 14], by decide, rfl⟩ ?_
                refine ga_firstN 3 #[true, true, true, true, false, false, false, false, false, false, false, false, false, false] rfl rfl rfl rfl rfl rfl (by kernel_rfl) rfl ⟨[0, 1, 2, 3, 4, 5, 6, 7, 8, 9, 10, 11, 12, 13, 14], by decide, rfl⟩ ?_
                refine ga_firstN 4 #[true, true, true, true, true, false, false, false, false, false, false, false, false, false] rfl rfl rfl rfl rfl rfl (by kernel_rfl) rfl ⟨[0, 1, 2, 3, 4, 5, 6, 7, 8, 9, 10, 11, 12, 13, 14], by decide, rfl⟩ ?_
                refine ga_firstN 5 #[true, true, true, true, true, true, false, false, false, false, false, false, false, false] rfl rfl rfl rfl rfl rfl (by kernel_rfl) rfl ⟨[0, 1, 2, 3, 4, 5, 6, 7, 8, 9, 10, 11, 12, 13, 14], by decide, rfl⟩ ?_
                refine ga_firstN 6 #[true, true, true, true, true, true, true, false, false, false, false, false, false, false] rfl rfl rfl rfl rfl rfl (by kernel_rfl) rfl ⟨[0, 1, 2, 3, 4, 5, 6, 7, 8, 9, 10, 11, 12, 13, 14], by decide, rfl⟩ ?_
                refine ga_firstN 7 #[true, true, true, true, true, true, true, true, false, false, false, false, false, false] rfl rfl rfl rfl rfl rfl (by kernel_rfl) rfl ⟨[0, 1, 2, 3, 4, 5, 6, 7, 8, 9, 10, 11, 12, 13, 14], by decide, rfl⟩ ?_
                refine ga_firstN 8 #[true, true, true, true, true, true, true, true, true, false, false, false, false, false] rfl rfl rfl rfl rfl rfl (by kernel_rfl) rfl ⟨[0, 1, 2, 3, 4, 5, 6, 7, 8, 9, 10, 11, 12, 13, 14], by decide, rfl⟩ ?_
                refine ga_firstN 9 #[true, true, true, true, true, true, true, true, true, true, false, false, false, false] rfl rfl rfl rfl rfl rfl (by kernel_rfl) rfl ⟨[0, 1, 2, 3, 4, 5, 6, 7, 8, 9, 10, 11, 12, 13, 14], by decide, rfl⟩ ?_
                refine ga_firstN 10 #[true, true, true, true, true, true, true, true, true, true, true, false, false, false] rfl rfl rfl rfl rfl rfl (by kernel_rfl) rfl ⟨[0, 1, 2, 3, 4, 5, 6, 7, 8, 9, 10, 11, 12, 13, 14], by decide, rfl⟩ ?_
                refine ga_firstN 11 #[true, true, true, true, true, true, true, true, true, true, true, true, false, false] rfl rfl rfl rfl rfl rfl (by kernel_rfl) rfl ⟨[0, 1, 2, 3, 4, 5, 6, 7, 8, 9, 10, 11, 12, 13, 14], by decide, rfl⟩ ?_
                refine ga_first 12 #[true, true, true, true, true, true, true, true, true, true, true, true, true, false] rfl rfl rfl rfl (by kernel_rfl) rfl ⟨[0, 1, 2, 3, 4, 5, 6, 7, 8, 9, 10, 11, 12, 13, 14], by decide, rfl⟩ (qt_rd (rd_pick_t rfl rfl)) ?_
                refine ga_first 13 #[true, true, true, true, true, true, true, true, true, true, true, true, true, true] rfl rfl rfl rfl (by kernel_rfl) rfl ⟨[0, 1, 2, 3, 4, 5, 6, 7, 8, 9, 10, 11, 12, 13, 14], by decide, rfl⟩ (qt_rd (rd_assign rfl)) ?_
                refine ga_end (by kernel_rfl) (.inr ⟨[0, 1, 2, 3, 4, 5, 6, 7, 8, 9, 10, 11, 12, 13, 14], by decide, rfl⟩) ?_
                refine gx_block ?_
                refine gx_then ?_
                refine gc_region ?_
                refine gl_op (op_rd rfl (rd_move rfl) ?_)
                refine gl_op (op_rd rfl (by first | exact rd_addN (b := 1) rfl rfl (by omega) | exact rd_add rfl rfl (by omega) (by omega)) ?_)
                refine gl_op (op_rd rfl (rd_assign rfl) ?_)
                refine gl_nil ?_
                refine gx_then ?_
                exact gx_cut ((i + 1, true)) ⟨⟨by simp only; omega, by simp only; rw [any_take hx, ← htw, h78]; rfl⟩, by simp only; omega⟩ ⟨rfl, rfl, rfl, rfl, rfl, rfl, rfl, rfl, trivial⟩ ⟨[0, 1, 2, 3, 4, 5, 6, 7, 8, 9, 10, 11, 12, 13, 14], by decide, rfl⟩
              · skip
                refine ga_first 1 #[true, true, false, false, false, false, false, false, false, false, false, false, false, false] rfl rfl rfl rfl (by kernel_rfl) rfl ⟨[0, 1, 2, 3, 4, 5, 6, 7, 8, 9, 10, 11, 12, 13, 14], by decide, rfl⟩ (qt_rd (rd_move rfl)) ?_
                refine ga_firstY 2 #[true, true, true, false, false, false, false, false, false, false, false, false, false, false] rfl rfl rfl rfl rfl rfl (by kernel_rfl) rfl ⟨[0, 1, 2, 3, 4, 5, 6, 7, 8, 9, 10, 11, 12, 13, 14], by decide, rfl⟩ (qt_rd (rd_loadAgg Try.underlying25 rfl ty_25 rfl (by first | exact cs_blk 0 (off := 0) (k := 3) rfl rfl | exact cs_blk 9 (off := 0) (k := 3) rfl rfl | exact cs_blk 14 (off := 0) (k := 3) rfl rfl | exact cs_old (by assumption) (by simp)) rfl)) ?_
                refine ga_firstY 3 #[true, true, true, true, false, false, false, false, false, false, false, false, false, false] rfl rfl rfl rfl rfl rfl (by kernel_rfl) rfl ⟨[0, 1, 2, 3, 4, 5, 6, 7, 8, 9, 10, 11, 12, 13, 14], by decide, rfl⟩ (qt_rd (rd_fieldAddr rfl (fa_91_0 _))) ?_
                refine ga_firstY 4 #[true, true, true, true, true, false, false, false, false, false, false, false, false, false] rfl rfl rfl rfl rfl rfl (by kernel_rfl) rfl ⟨[0, 1, 2, 3, 4, 5, 6, 7, 8, 9, 10, 11, 12, 13, 14], by decide, rfl⟩ (qt_rd (rd_load Try.underlying23 rfl rfl (by first | exact ld_blk 0 rfl rfl | exact ld_blk 9 rfl rfl | exact ld_blk 14 rfl rfl | exact ld_old (by assumption) (by simp) | exact ld_cells (by assumption) (by simp) rfl))) ?_
                refine ga_firstY 5 #[true, true, true, true, true, true, false, false, false, false, false, false, false, false] rfl rfl rfl rfl rfl rfl (by kernel_rfl) rfl ⟨[0, 1, 2, 3, 4, 5, 6, 7, 8, 9, 10, 11, 12, 13, 14], by decide, rfl⟩ (qt_rd (rd_move rfl)) ?_
                refine ga_firstY 6 #[true, true, true, true, true, true, true, false, false, false, false, false, false, false] rfl rfl rfl rfl rfl rfl (by kernel_rfl) rfl ⟨[0, 1, 2, 3, 4, 5, 6, 7, 8, 9, 10, 11, 12, 13, 14], by decide, rfl⟩ (qt_rd (by first | exact rd_indexRow1 1 rfl Try.underlying23 ty_3 rfl rfl (by omega) (by omega) | exact rd_indexRow1 2 rfl Try.underlying23 ty_3 rfl rfl (by omega) (by omega) | exact rd_indexRow1 3 rfl Try.underlying23 ty_3 rfl rfl (by omega) (by omega) | exact rd_indexRow1 4 rfl Try.underlying23 ty_3 rfl rfl (by omega) (by omega) | exact rd_indexRow1 5 rfl Try.underlying23 ty_3 rfl rfl (by omega) (by omega) | exact rd_indexRow1 6 rfl Try.underlying23 ty_3 rfl rfl (by omega) (by omega) | exact rd_indexRow1 7 rfl Try.underlying23 ty_3 rfl rfl (by omega) (by omega) | exact rd_indexRow1 8 rfl Try.underlying23 ty_3 rfl rfl (by omega) (by omega) | exact rd_indexRow1 10 rfl Try.underlying23 ty_3 rfl rfl (by omega) (by omega) | exact rd_indexRow1 11 rfl Try.underlying23 ty_3 rfl rfl (by omega) (by omega) | exact rd_indexRow1 12 rfl Try.underlying23 ty_3 rfl rfl (by omega) (by omega) | exact rd_indexRow1 13 rfl Try.underlying23 ty_3 rfl rfl (by omega) (by omega) | exact rd_indexOld1 (by assumption) Try.underlying23 ty_3 rfl rfl (by omega) (by omega) | exact rd_index1 Try.underlying23 ty_3 rfl rfl (by omega) (by omega))) ?_
                refine ga_firstY 7 #[true, true, true, true, true, true, true, true, false, false, false, false, false, false] rfl rfl rfl rfl rfl rfl (by kernel_rfl) rfl ⟨[0, 1, 2, 3, 4, 5, 6, 7, 8, 9, 10, 11, 12, 13, 14], by decide, rfl⟩ (qt_rd (rd_load Try.underlying3 rfl rfl (ld_rowN 1 rfl (get_sV hx)))) ?_
                refine ga_firstY 8 #[true, true, true, true, true, true, true, true, true, false, false, false, false, false] rfl rfl rfl rfl rfl rfl (by kernel_rfl) rfl ⟨[0, 1, 2, 3, 4, 5, 6, 7, 8, 9, 10, 11, 12, 13, 14], by decide, rfl⟩ (qt_rd (rd_move rfl)) ?_
                refine ga_firstY 10 #[true, true, true, true, true, true, true, true, true, false, true, false, false, false] rfl rfl rfl rfl rfl rfl (by kernel_rfl) rfl ⟨[0, 1, 2, 3, 4, 5, 6, 7, 8, 9, 10, 11, 12, 13, 14], by decide, rfl⟩ (qt_rd (rd_move rfl)) ?_
                refine ga_onlyY 9 #[true, true, true, true, true, true, true, true, true, true, true, false, false, false] rfl rfl rfl rfl (by kernel_rfl) rfl (.inr ⟨[0, 1, 2, 3, 4, 5, 6, 7, 8, 9, 10, 11, 12, 13, 14], by decide, rfl⟩) (op_call rfl (vf := []) (vc := []) rfl rfl Try.call49 (fun w ho => rnext_ok c x.state im w (hc.at ho) hgd hxs h4) ?_)
                rintro _ _ ⟨rk, ck, rfl, rfl⟩
                have hkl := nextL_len c x.state im
                obtain ⟨ks, hks⟩ : ∃ ks, nextL c x.state im = ks := ⟨_, rfl⟩
                rw [hks] at hkl ⊢
                refine ga_onlyY 11 #[true, true, true, true, true, true, true, true, true, true, true, true, false, false] rfl rfl rfl rfl (by kernel_rfl) rfl (.inr ⟨[1, 2, 3, 4, 5, 6, 7, 8, 9, 10, 11, 12, 13, 14, 15], by decide, rfl⟩) (op_call rfl (vf := []) (vc := []) rfl rfl Try.call64 (fun w ho => rhas_nats_ok ks (rowA rk) ck k w (ho.rowSl 0 rfl) (by omega)) ?_)
                rintro _ _ ⟨rfl, rfl⟩
                refine ga_first 12 #[true, true, true, true, true, true, true, true, true, true, true, true, true, false] rfl rfl rfl rfl (by kernel_rfl) rfl ⟨[1, 2, 3, 4, 5, 6, 7, 8, 9, 10, 11, 12, 13, 14, 15], by decide, rfl⟩ (qt_rd (rd_pick_f rfl rfl)) ?_
                refine ga_first 13 #[true, true, true, true, true, true, true, true, true, true, true, true, true, true] rfl rfl rfl rfl (by kernel_rfl) rfl ⟨[1, 2, 3, 4, 5, 6, 7, 8, 9, 10, 11, 12, 13, 14, 15], by decide, rfl⟩ (qt_rd (rd_assign rfl)) ?_
                refine ga_end (by kernel_rfl) (.inr ⟨[1, 2, 3, 4, 5, 6, 7, 8, 9, 10, 11, 12, 13, 14, 15], by decide, rfl⟩) ?_
                refine gx_block ?_
                refine gx_then ?_
                refine gc_region ?_
                refine gl_op (op_rd rfl (rd_move rfl) ?_)
                refine gl_op (op_rd rfl (by first | exact rd_addN (b := 1) rfl rfl (by omega) | exact rd_add rfl rfl (by omega) (by omega)) ?_)
                refine gl_op (op_rd rfl (rd_assign rfl) ?_)
                refine gl_nil ?_
                refine gx_then ?_
                exact gx_cut ((i + 1, decide (k ∈ ks))) ⟨⟨by simp only; omega, by simp only; rw [any_take hx, ← htw, h78, ← hks, mem_test hgd]; rfl⟩, by simp only; omega⟩ ⟨rfl, rfl, rfl, rfl, rfl, rfl, rfl, rfl, trivial⟩ ⟨[1, 2, 3, 4, 5, 6, 7, 8, 9, 10, 11, 12, 13, 14, 15], by decide, rfl⟩
            · skip
              refine gl_nil ?_
              refine gx_then ?_
              refine gc_cond_f rfl ?_
              refine gc_exit ?_
              refine gx_then_exit ?_
              refine gx_then_exit ?_
              refine gx_block_exit ?_
              refine gx_then ?_
              refine gc_seq ?_
              refine gc_region ?_
              refine gl_op (op_rd rfl (rd_move rfl) ?_)
              refine gk_bool (fun h91 => ?_) (fun h91 => ?_)
              · skip
                have hz2 : glitchAt c im ns k = true := by rw [hga, ← h91, htw, show i = ms.length by omega, List.take_length]
                refine gl_nil ?_
                refine gx_then ?_
                refine gc_cond_t rfl ?_
                refine gc_region ?_
                refine gl_op (op_rd rfl (rd_move rfl) ?_)
                refine gl_op (op_rd rfl (rd_move rfl) ?_)
                refine gl_op (op_buildSlice (sz := 1) rfl rfl (fun _ => bs_23_1_0 _) rfl rfl (fun b94 => ?_))
                refine gl_op (op_appendRow 7 0 Try.underlying23 ty_3 rfl (by decide) rfl rfl rfl rfl rfl (by simp [Value.oneCell']) (by omega) (by omega) (fun _ => (by first | rfl | (simp only [List.set_cons_succ, List.set_cons_zero]; exact rfl))) (fun r95 c95 => ?_))
                refine gl_op (op_rd rfl (rd_assign rfl) ?_)
                refine gl_nil ?_
                refine gx_block ?_
                refine gx_then ?_
                rw [snocN, snoc_len fs k]
                refine gc_region ?_
                refine gl_op (op_rd rfl (rd_move rfl) ?_)
                refine gl_op (op_rd rfl (by first | exact rd_addN (b := 1) rfl rfl (by omega) | exact rd_add rfl rfl (by omega) (by omega)) ?_)
                refine gl_op (op_rd rfl (rd_assign rfl) ?_)
                refine gl_nil ?_
                refine gx_then ?_
                exact gx_cut ((k + 1, fs ++ [k], r95, c95)) ⟨⟨by simp only; omega, by simp only; rw [filter_range_t _ hz2, hfs]⟩, by simp only; omega⟩ ⟨rfl, rfl, rfl, rfl, rfl, trivial⟩ ⟨[7, 8, 9, 10, 11, 12, 13, 14, 15], by decide, rfl⟩
              · skip
                have hz2 : glitchAt c im ns k = false := by rw [hga, ← h91, htw, show i = ms.length by omega, List.take_length]
                refine gl_nil ?_
                refine gx_then ?_
                refine gc_cond_f rfl ?_
                refine gc_skip ?_
                refine gx_block ?_
                refine gx_then ?_
                refine gc_region ?_
                refine gl_op (op_rd rfl (rd_move rfl) ?_)
                refine gl_op (op_rd rfl (by first | exact rd_addN (b := 1) rfl rfl (by omega) | exact rd_add rfl rfl (by omega) (by omega)) ?_)
                refine gl_op (op_rd rfl (rd_assign rfl) ?_)
                refine gl_nil ?_
                refine gx_then ?_
                exact gx_cut ((k + 1, fs, ro, co)) ⟨⟨by simp only; omega, by simp only; rw [filter_range_f _ hz2, hfs]⟩, by simp only; omega⟩ ⟨rfl, rfl, rfl, rfl, rfl, trivial⟩ ⟨[6, 7, 8, 9, 10, 11, 12, 13, 14], by decide, rfl⟩
        · skip
          refine gl_nil ?_
          refine gx_then ?_
          refine gc_cond_f rfl ?_
          refine gc_exit ?_
          refine gx_then_exit ?_
          refine gx_then_exit ?_
          refine gx_block_exit ?_
          refine gx_then ?_
          refine gc_seq ?_
          refine gc_region ?_
          refine gl_op (op_rd rfl (rd_move rfl) ?_)
          refine gl_op (op_rd rfl (rd_assign rfl) ?_)
          refine gl_op (op_rd rfl (rd_assign rfl) ?_)
          refine gl_nil ?_
          refine gx_then ?_
          refine gc_ret ?_
          refine gx_ret2 (.inl rfl) Try.results37 rfl rfl [0] (by decide) ?_
          rw [glitchesR_ok hr hre (by simpa using hk2)]
          simp only [Int.toNat_natCast]
          rw [show glitchesP c im ns = fs by rw [hfs, show k = c.gates.length by omega]; rfl]
          exact ⟨ro, co, rfl, rfl⟩
  · skip
    refine gl_op (op_rd rfl (rd_move rfl) ?_)
    refine gl_op (op_rd rfl (rd_extract rfl rfl) ?_)
    refine gl_op (op_rd rfl (rd_extract rfl rfl) ?_)
    refine gl_op (op_alloc ty_91 rfl rfl (fun b8 => ?_))
    first | refine gl_op (op_storeAgg 0 ty_91 rfl rfl rfl rfl rfl rfl (by first | rfl | (simp only [List.set_cons_succ, List.set_cons_zero]; exact rfl)) ?_) | refine gl_op (op_storeAgg 1 ty_91 rfl rfl rfl rfl rfl rfl (by first | rfl | (simp only [List.set_cons_succ, List.set_cons_zero]; exact rfl)) ?_)
    refine gl_op (op_rd rfl (rd_assign rfl) ?_)
    refine gl_nil ?_
    refine gx_then ?_
    refine gc_seq ?_
    refine gc_seq ?_
    refine gc_region ?_
    refine gl_op (op_rd rfl (rd_move rfl) ?_)
    refine gl_op (op_rd rfl (rd_neq rfl rfl) (gk_dec (fun he => ?_) (fun he => ?_)))
    · skip
      refine gl_nil ?_
      refine gx_then ?_
      refine gc_cond_t rfl ?_
      refine gc_seq ?_
      refine gk_nil 3 1 ?_
      refine gc_region ?_
      refine gl_op (op_rd rfl (rd_move rfl) ?_)
      refine gl_op (op_rd rfl (rd_assign rfl) ?_)
      refine gl_op (op_rd rfl (rd_assign rfl) ?_)
      refine gl_nil ?_
      refine gx_then ?_
      refine gc_ret ?_
      refine gx_then_ret ?_
      refine gx_ret2 (.inl rfl) Try.results37 rfl rfl [0] (by decide) ?_
      rw [glitchesR_full hr hre]
      exact ⟨none, 0, rfl, rfl⟩
    · skip
      exact absurd he (by simp)
  · skip
    refine gl_op (op_rd rfl (rd_move rfl) ?_)
    refine gl_op (op_rd rfl (rd_extract rfl rfl) ?_)
    refine gl_op (op_rd rfl (rd_extract rfl rfl) ?_)
    refine gl_op (op_alloc ty_91 rfl rfl (fun b8 => ?_))
    first | refine gl_op (op_storeAgg 0 ty_91 rfl rfl rfl rfl rfl rfl (by first | rfl | (simp only [List.set_cons_succ, List.set_cons_zero]; exact rfl)) ?_) | refine gl_op (op_storeAgg 1 ty_91 rfl rfl rfl rfl rfl rfl (by first | rfl | (simp only [List.set_cons_succ, List.set_cons_zero]; exact rfl)) ?_)
    refine gl_op (op_rd rfl (rd_assign rfl) ?_)
    refine gl_nil ?_
    refine gx_then ?_
    refine gc_seq ?_
    refine gc_seq ?_
    refine gc_region ?_
    refine gl_op (op_rd rfl (rd_move rfl) ?_)
    refine gl_op (op_rd rfl (rd_neq rfl rfl) (gk_dec (fun he => ?_) (fun he => ?_)))
    · skip
      refine gl_nil ?_
      refine gx_then ?_
      refine gc_cond_t rfl ?_
      refine gc_seq ?_
      refine gk_nil 3 1 ?_
      refine gc_region ?_
      refine gl_op (op_rd rfl (rd_move rfl) ?_)
      refine gl_op (op_rd rfl (rd_assign rfl) ?_)
      refine gl_op (op_rd rfl (rd_assign rfl) ?_)
      refine gl_nil ?_
      refine gx_then ?_
      refine gc_ret ?_
      refine gx_then_ret ?_
      refine gx_ret2 (.inl rfl) Try.results37 rfl rfl [0] (by decide) ?_
      rw [glitchesR_bad hr]
      exact ⟨none, 0, rfl, rfl⟩
    · skip
      exact absurd he (by simpa using hr)

set_option maxRecDepth 100000 in
set_option maxHeartbeats 1000000 in
theorem RelaysRests_ok (c : Circ) (st inn : Int) (w0 : World) (hc : c.In w0 []) (hst : st ≤ 9223372036854775807) (hin : inn ≤ 9223372036854775807) : Sp Try.prog 10 [c.val, .int .i64 st, .int .i64 inn] w0 [] (RV (.bool true)) := by
  have hrl : (restsR c st inn).1.length ≤ 5000 := by
    unfold restsR; split
    · rename_i h; have hg := Circ.good (Circ.of_ready h).1
      have hpow : 2 ^ c.gates.length ≤ 2 ^ 12 := Nat.pow_le_pow_right (by decide) hg.g12
      cases reachP c inn.toNat [st.toNat] with
      | none => simp
      | some ns => have := filter_range_le (restOk c inn.toNat ns) (1 <<< c.gates.length); rw [one_shl] at this; simp only [restL]; rw [one_shl]; omega
    · simp
  have hvl : (raceR c st inn).1.a.length ≤ 2000 ∧ (raceR c st inn).1.b.length ≤ 2000 := by
    unfold raceR; split
    · rename_i h; have hr := Circ.of_ready h; have hg := Circ.good hr.1
      cases hre : reachP c inn.toNat [st.toNat] with
      | none => simp
      | some ns => exact race_len (facts_gr hg hr.2.2.1 hre)
    · simp
  have hgl : (glitchesR c st inn).1.length ≤ 5000 := by
    unfold glitchesR; split
    · rename_i h; have hg := (Circ.good (Circ.of_ready h).1).g12
      cases reachP c inn.toNat [st.toNat] with
      | none => simp
      | some ns => simp only; split <;> simp only [List.length_nil] <;> first | omega | (have := filter_range_le (glitchAt c inn.toNat ns) c.gates.length; simp only [glitchesP]; omega)
    · simp
  obtain ⟨R, hR⟩ : ∃ x, restsR c st inn = x := ⟨_, rfl⟩
  obtain ⟨X, hX⟩ : ∃ x, raceR c st inn = x := ⟨_, rfl⟩
  obtain ⟨S, hS⟩ : ∃ x, settleR c st inn = x := ⟨_, rfl⟩
  obtain ⟨G, hG⟩ : ∃ x, glitchesR c st inn = x := ⟨_, rfl⟩
  rw [hR] at hrl
  rw [hX] at hvl
  rw [hG] at hgl
  refine spec_enter Try.func10 rfl Try.ntmps10 rfl (Own.refl _) ?_
  simp only [argEnv]
  refine gc_seq ?_
  refine gc_region ?_
  refine gl_op (op_box rfl rfl rfl (fun b3 => ?_))
  refine gl_op (op_rd rfl (rd_assign rfl) ?_)
  refine gl_nil ?_
  refine gx_then ?_
  refine gc_seq ?_
  refine gc_region ?_
  refine gl_op (op_rd rfl (rd_loadAgg Try.underlying25 rfl ty_25 rfl (by first | exact cs_blk 0 (off := 0) (k := 3) rfl rfl | exact cs_old (by assumption) (by simp)) rfl) ?_)
  refine gl_op (op_rd rfl (rd_move rfl) ?_)
  refine gl_op (op_rd rfl (rd_move rfl) ?_)
  refine gl_op (op_call rfl (vf := []) (vc := []) rfl rfl Try.call33 (fun w ho => Rests_ok c st inn w (hc.at ho) hst hin) ?_)
  rintro _ _ ⟨r1, c1, rfl, rfl⟩
  simp only [hR]
  refine gl_op (op_rd rfl (rd_move rfl) ?_)
  refine gl_op (op_rd rfl (rd_extract rfl rfl) ?_)
  refine gl_op (op_rd rfl (rd_extract rfl rfl) ?_)
  refine gl_op (op_rd rfl (rd_assign rfl) ?_)
  refine gl_op (op_rd rfl (rd_assign rfl) ?_)
  refine gl_nil ?_
  refine gx_then ?_
  refine gc_seq ?_
  refine gc_region ?_
  refine gl_op (op_rd rfl (rd_loadAgg Try.underlying25 rfl ty_25 rfl (by first | exact cs_blk 1 (off := 0) (k := 3) rfl rfl | exact cs_old (by assumption) (by simp)) rfl) ?_)
  refine gl_op (op_rd rfl (rd_move rfl) ?_)
  refine gl_op (op_rd rfl (rd_move rfl) ?_)
  refine gl_op (op_call rfl (vf := []) (vc := []) rfl rfl Try.call34 (fun w ho => rRests_ok c st inn w (hc.at ho) hst hin) ?_)
  rintro _ _ ⟨r2, c2, rfl, rfl⟩
  simp only [hR]
  refine gl_op (op_rd rfl (rd_move rfl) ?_)
  refine gl_op (op_rd rfl (rd_extract rfl rfl) ?_)
  refine gl_op (op_rd rfl (rd_extract rfl rfl) ?_)
  refine gl_op (op_rd rfl (rd_assign rfl) ?_)
  refine gl_op (op_rd rfl (rd_assign rfl) ?_)
  refine gl_nil ?_
  refine gx_then ?_
  refine gc_seq ?_
  refine gc_region ?_
  refine gl_op (op_rd rfl (rd_loadAgg Try.underlying25 rfl ty_25 rfl (by first | exact cs_blk 2 (off := 0) (k := 3) rfl rfl | exact cs_old (by assumption) (by simp)) rfl) ?_)
  refine gl_op (op_rd rfl (rd_move rfl) ?_)
  refine gl_op (op_rd rfl (rd_move rfl) ?_)
  refine gl_op (op_call rfl (vf := []) (vc := []) rfl rfl Try.call17 (fun w ho => Race_ok c st inn w (hc.at ho) hst hin (fun im h hg => facts c im h hg)) ?_)
  rintro _ _ ⟨ra, ca, rb, cb, rfl, rfl⟩
  simp only [hX]
  refine gl_op (op_rd rfl (rd_move rfl) ?_)
  refine gl_op (op_rd rfl (rd_extract rfl rfl) ?_)
  refine gl_op (op_rd rfl (rd_extract rfl rfl) ?_)
  refine gl_op (op_alloc ty_40 rfl rfl (fun b11 => ?_))
  first | refine gl_op (op_storeAgg 0 ty_40 rfl rfl rfl rfl rfl rfl (by first | rfl | (simp only [List.set_cons_succ, List.set_cons_zero]; exact rfl)) ?_) | refine gl_op (op_storeAgg 5 ty_40 rfl rfl rfl rfl rfl rfl (by first | rfl | (simp only [List.set_cons_succ, List.set_cons_zero]; exact rfl)) ?_)
  refine gl_op (op_rd rfl (rd_assign rfl) ?_)
  refine gl_nil ?_
  refine gx_then ?_
  refine gc_seq ?_
  refine gc_region ?_
  refine gl_op (op_rd rfl (rd_loadAgg Try.underlying25 rfl ty_25 rfl (by first | exact cs_blk 0 (off := 0) (k := 3) rfl rfl | exact cs_blk 5 (off := 0) (k := 3) rfl rfl | exact cs_old (by assumption) (by simp)) rfl) ?_)
  refine gl_op (op_rd rfl (rd_move rfl) ?_)
  refine gl_op (op_rd rfl (rd_move rfl) ?_)
  refine gl_op (op_call rfl (vf := []) (vc := []) rfl rfl Try.call35 (fun w ho => rRace_ok c st inn w (hc.at ho) hst hin) ?_)
  rintro _ _ ⟨rc, cc, rd, cd, rfl, rfl⟩
  simp only [hX]
  refine gl_op (op_rd rfl (rd_move rfl) ?_)
  refine gl_op (op_rd rfl (rd_extract rfl rfl) ?_)
  refine gl_op (op_rd rfl (rd_extract rfl rfl) ?_)
  refine gl_op (op_alloc ty_40 rfl rfl (fun b13 => ?_))
  first | refine gl_op (op_storeAgg 0 ty_40 rfl rfl rfl rfl rfl rfl (by first | rfl | (simp only [List.set_cons_succ, List.set_cons_zero]; exact rfl)) ?_) | refine gl_op (op_storeAgg 3 ty_40 rfl rfl rfl rfl rfl rfl (by first | rfl | (simp only [List.set_cons_succ, List.set_cons_zero]; exact rfl)) ?_) | refine gl_op (op_storeAgg 8 ty_40 rfl rfl rfl rfl rfl rfl (by first | rfl | (simp only [List.set_cons_succ, List.set_cons_zero]; exact rfl)) ?_)
  refine gl_op (op_rd rfl (rd_assign rfl) ?_)
  refine gl_nil ?_
  refine gx_then ?_
  refine gc_seq ?_
  refine gc_seq ?_
  refine gc_region ?_
  refine gl_op (op_rd rfl (rd_move rfl) ?_)
  refine gl_op (op_rd rfl (rd_move rfl) ?_)
  refine gl_op (op_call rfl (vf := []) (vc := []) rfl rfl Try.call25 (fun w ho => sameNats_t R.1 R.1 (rowA r1) (rowA r2) c1 c2 w (ho.rowSl 7 rfl) (ho.rowSl 6 rfl) (by omega) rfl) ?_)
  rintro _ _ ⟨rfl, rfl⟩
  refine gl_op (op_rd rfl (rd_not rfl) ?_)
  refine gl_op (op_rd rfl (rd_move rfl) ?_)
  refine gl_yes rfl rfl (op_rd rfl (rd_move rfl) ?_)
  refine gl_yes rfl rfl (op_rd rfl (rd_move rfl) ?_)
  refine gl_yes rfl rfl (op_rd rfl (rd_neq rfl rfl) (gk_dec (fun h52 => ?_) (fun h52 => ?_)))
  · skip
    exact absurd rfl h52
  · skip
    refine gl_op (op_rd rfl (rd_pick_f rfl rfl) ?_)
    refine gl_op (op_rd rfl (rd_move rfl) ?_)
    refine gl_yes rfl rfl (op_rd rfl (rd_loadAgg Try.underlying40 rfl ty_40 rfl (by first | exact cs_blk 0 (off := 0) (k := 3) rfl rfl | exact cs_blk 3 (off := 0) (k := 3) rfl rfl | exact cs_blk 8 (off := 0) (k := 3) rfl rfl | exact cs_old (by assumption) (by simp)) rfl) ?_)
    refine gl_yes rfl rfl (op_rd rfl (rd_loadAgg Try.underlying40 rfl ty_40 rfl (by first | exact cs_blk 0 (off := 0) (k := 3) rfl rfl | exact cs_blk 3 (off := 0) (k := 3) rfl rfl | exact cs_blk 8 (off := 0) (k := 3) rfl rfl | exact cs_old (by assumption) (by simp)) rfl) ?_)
    refine gl_yes rfl rfl (op_call rfl (vf := []) (vc := []) rfl rfl Try.call28 (fun w ho => sameRace_t X.1 (rowA ra) (rowA rb) (rowA rc) (rowA rd) ca cb cc cd w (ho.rowSl 4 rfl) (ho.rowSl 5 rfl) (ho.rowSl 1 rfl) (ho.rowSl 2 rfl) (by omega) (by omega)) ?_)
    rintro _ _ ⟨rfl, rfl⟩
    refine gl_yes rfl rfl (op_rd rfl (rd_not rfl) ?_)
    refine gl_op (op_rd rfl (rd_pick_f rfl rfl) ?_)
    refine gl_op (op_rd rfl (rd_move rfl) ?_)
    refine gl_yes rfl rfl (op_rd rfl (rd_move rfl) ?_)
    refine gl_yes rfl rfl (op_rd rfl (rd_move rfl) ?_)
    refine gl_yes rfl rfl (op_rd rfl (rd_neq rfl rfl) (gk_dec (fun h63 => ?_) (fun h63 => ?_)))
    · skip
      exact absurd rfl h63
    · skip
      refine gl_op (op_rd rfl (rd_pick_f rfl rfl) ?_)
      refine gl_nil ?_
      refine gx_then ?_
      refine gc_cond_f rfl ?_
      refine gc_skip ?_
      refine gx_then ?_
      refine gc_seq ?_
      refine gc_region ?_
      refine gl_op (op_rd rfl (rd_loadAgg Try.underlying25 rfl ty_25 rfl (by first | exact cs_blk 0 (off := 0) (k := 3) rfl rfl | exact cs_blk 3 (off := 0) (k := 3) rfl rfl | exact cs_blk 8 (off := 0) (k := 3) rfl rfl | exact cs_old (by assumption) (by simp)) rfl) ?_)
      refine gl_op (op_rd rfl (rd_move rfl) ?_)
      refine gl_op (op_rd rfl (rd_move rfl) ?_)
      refine gl_op (op_call rfl (vf := []) (vc := []) rfl rfl Try.call11 (fun w ho => Settle_ok c st inn w (hc.at ho) hst hin (fun im h hg => facts c im h hg)) ?_)
      rintro _ _ ⟨rfl, rfl⟩
      simp only [hS]
      refine gl_op (op_rd rfl (rd_move rfl) ?_)
      refine gl_op (op_rd rfl (rd_extract rfl rfl) ?_)
      refine gl_op (op_rd rfl (rd_extract rfl rfl) ?_)
      refine gl_op (op_rd rfl (rd_assign rfl) ?_)
      refine gl_op (op_rd rfl (rd_assign rfl) ?_)
      refine gl_nil ?_
      refine gx_then ?_
      refine gc_seq ?_
      refine gc_region ?_
      refine gl_op (op_rd rfl (rd_loadAgg Try.underlying25 rfl ty_25 rfl (by first | exact cs_blk 0 (off := 0) (k := 3) rfl rfl | exact cs_blk 3 (off := 0) (k := 3) rfl rfl | exact cs_blk 8 (off := 0) (k := 3) rfl rfl | exact cs_old (by assumption) (by simp)) rfl) ?_)
      refine gl_op (op_rd rfl (rd_move rfl) ?_)
      refine gl_op (op_rd rfl (rd_move rfl) ?_)
      refine gl_op (op_call rfl (vf := []) (vc := []) rfl rfl Try.call36 (fun w ho => rSettle_ok c st inn w (hc.at ho) hst hin) ?_)
      rintro _ _ ⟨rfl, rfl⟩
      simp only [hS]
      refine gl_op (op_rd rfl (rd_move rfl) ?_)
      refine gl_op (op_rd rfl (rd_extract rfl rfl) ?_)
      refine gl_op (op_rd rfl (rd_extract rfl rfl) ?_)
      refine gl_op (op_rd rfl (rd_assign rfl) ?_)
      refine gl_op (op_rd rfl (rd_assign rfl) ?_)
      refine gl_nil ?_
      refine gx_then ?_
      refine gc_seq ?_
      refine gc_region ?_
      refine gl_op (op_rd rfl (rd_loadAgg Try.underlying25 rfl ty_25 rfl (by first | exact cs_blk 0 (off := 0) (k := 3) rfl rfl | exact cs_blk 3 (off := 0) (k := 3) rfl rfl | exact cs_blk 8 (off := 0) (k := 3) rfl rfl | exact cs_old (by assumption) (by simp)) rfl) ?_)
      refine gl_op (op_rd rfl (rd_move rfl) ?_)
      refine gl_op (op_rd rfl (rd_move rfl) ?_)
      refine gl_op (op_call rfl (vf := []) (vc := []) rfl rfl Try.call14 (fun w ho => Glitches_ok c st inn w (hc.at ho) hst hin (fun im h hg => facts c im h hg)) ?_)
      rintro _ _ ⟨r5, c5, rfl, rfl⟩
      simp only [hG]
      refine gl_op (op_rd rfl (rd_move rfl) ?_)
      refine gl_op (op_rd rfl (rd_extract rfl rfl) ?_)
      refine gl_op (op_rd rfl (rd_extract rfl rfl) ?_)
      refine gl_op (op_rd rfl (rd_assign rfl) ?_)
      refine gl_op (op_rd rfl (rd_assign rfl) ?_)
      refine gl_nil ?_
      refine gx_then ?_
      refine gc_seq ?_
      refine gc_region ?_
      refine gl_op (op_rd rfl (rd_loadAgg Try.underlying25 rfl ty_25 rfl (by first | exact cs_blk 1 (off := 0) (k := 3) rfl rfl | exact cs_blk 4 (off := 0) (k := 3) rfl rfl | exact cs_blk 9 (off := 0) (k := 3) rfl rfl | exact cs_old (by assumption) (by simp)) rfl) ?_)
      refine gl_op (op_rd rfl (rd_move rfl) ?_)
      refine gl_op (op_rd rfl (rd_move rfl) ?_)
      refine gl_op (op_call rfl (vf := []) (vc := []) rfl rfl Try.call37 (fun w ho => rGlitches_ok c st inn w (hc.at ho) hst hin) ?_)
      rintro _ _ ⟨r6, c6, rfl, rfl⟩
      simp only [hG]
      refine gl_op (op_rd rfl (rd_move rfl) ?_)
      refine gl_op (op_rd rfl (rd_extract rfl rfl) ?_)
      refine gl_op (op_rd rfl (rd_extract rfl rfl) ?_)
      refine gl_op (op_rd rfl (rd_assign rfl) ?_)
      refine gl_op (op_rd rfl (rd_assign rfl) ?_)
      refine gl_nil ?_
      refine gx_then ?_
      refine gc_seq ?_
      refine gc_region ?_
      refine gl_op (op_rd rfl (rd_move rfl) ?_)
      refine gl_op (op_rd rfl (rd_move rfl) ?_)
      refine gl_op (op_rd rfl (rd_eql rfl rfl) (gk_dec (fun h95 => ?_) (fun h95 => ?_)))
      · skip
        refine gl_op (op_rd rfl (rd_move rfl) ?_)
        refine gl_yes rfl rfl (op_rd rfl (rd_move rfl) ?_)
        refine gl_yes rfl rfl (op_rd rfl (rd_move rfl) ?_)
        refine gl_yes rfl rfl (op_rd rfl (rd_eql rfl rfl) (gk_dec (fun h99 => ?_) (fun h99 => ?_)))
        · skip
          refine gl_op (op_rd rfl (rd_pick_t rfl rfl) ?_)
          refine gl_op (op_rd rfl (rd_move rfl) ?_)
          refine gl_yes rfl rfl (op_rd rfl (rd_move rfl) ?_)
          refine gl_yes rfl rfl (op_rd rfl (rd_move rfl) ?_)
          refine gl_yes rfl rfl (op_call rfl (vf := []) (vc := []) rfl rfl Try.call25 (fun w ho => sameNats_t G.1 G.1 (rowA r5) (rowA r6) c5 c6 w (ho.rowSl 1 rfl) (ho.rowSl 0 rfl) (by omega) rfl) ?_)
          rintro _ _ ⟨rfl, rfl⟩
          refine gl_op (op_rd rfl (rd_pick_t rfl rfl) ?_)
          refine gl_op (op_rd rfl (rd_move rfl) ?_)
          refine gl_yes rfl rfl (op_rd rfl (rd_move rfl) ?_)
          refine gl_yes rfl rfl (op_rd rfl (rd_move rfl) ?_)
          refine gl_yes rfl rfl (op_rd rfl (rd_eql rfl rfl) (gk_dec (fun h109 => ?_) (fun h109 => ?_)))
          · skip
            refine gl_op (op_rd rfl (rd_pick_t rfl rfl) ?_)
            refine gl_op (op_rd rfl (rd_move rfl) ?_)
            refine gl_yes rfl rfl (op_call rfl (vf := []) (vc := []) rfl rfl Try.call12 (fun w ho => awake_ok w (fun c im h hg => facts c im h hg)) ?_)
            rintro _ _ ⟨rfl, rfl⟩
            refine gl_op (op_rd rfl (rd_pick_t rfl rfl) ?_)
            refine gl_op (op_rd rfl (rd_assign rfl) ?_)
            refine gl_nil ?_
            refine gx_then ?_
            refine gc_ret ?_
            refine gx_ret1 (.inl rfl) Try.results10 rfl [] (by decide) ?_
            exact ⟨rfl, rfl⟩
          · skip
            exact absurd rfl h109
        · skip
          exact absurd rfl h99
      · skip
        exact absurd rfl h95

end Go.Proofs.Yteocjpnckciboaa

set_option autoImplicit false
set_option linter.unusedVariables false
namespace Go.Proofs.Yteocjpnckciboaa
open Go.Gv
open Go.RowKit Go.ChangeShapes Go.WideShapes
open Ry
set_option maxHeartbeats 1000000 in
set_option maxRecDepth 100000 in
theorem relaysRests_lifted (os : Os) (started : os.Started) (H : Type) (enc : TypeId × Value → H) :
    ReturnsInHanded {} Try.checked os 10 .any (Rows.relaysRestsSpec.pre6 enc Try.prog Try.f10 Rows.relaysRestsRow.domain false) (Rows.relaysRestsSpec.post enc Try.prog Try.f10 false true false false) := by
  refine returnsInHanded_of_change_sized (C := Try.checked) tryOwn started (by kernel_rfl) Try.func10
    (ChangeSpec.witness6 (enc := enc) (C := Try.checked) false ⟨#[], #[.agg #[.int .i64 0, .slice none 0 0, .slice none 0 0], .int .i64 0, .int .i64 0], []⟩ 8 (by kernel_rfl) (by kernel_rfl) (by kernel_rfl) (by kernel_rfl)) ?_
  intro W base args ds gs before hval0 hW _ hwt _
  have hval : ∀ (j : Nat) t v, Try.f10.params[j]? = some t → args[j]? = some v → Value.okWide Try.prog W .any base t v := hval0
  have hW' := hW
  obtain ⟨p, q, hA0, hV, rfl, hfz, hnd⟩ := hW
  have hA : DataW.TrodAll enc Try.prog W 0 (fun _ => true) true Try.f10.params.toList args.toList ds p := hA0
  rw [Try.params10] at hA hval
  obtain ⟨v0, vs0, d0, ds0, p0, q0, hargs, rfl, rfl, h0, r0⟩ := trodAll_cons hA
  obtain ⟨v1, vs1, d1, ds1, p1, q1, rfl, rfl, rfl, h1, r1⟩ := trodAll_cons r0
  obtain ⟨v2, vs2, d2, ds2, p2, q2, rfl, rfl, rfl, h2, r2⟩ := trodAll_cons r1
  obtain ⟨rfl, rfl, rfl⟩ := trodAll_nil r2
  obtain rfl : args = #[v0, v1, v2] := Array.toList_inj.1 hargs
  obtain ⟨rfl, rfl⟩ := trodVars_none hV
  obtain ⟨cs0, rfl, hsz0⟩ := okWide_struct Try.underlying25 (hval 0 25 v0 rfl rfl)
  obtain ⟨fuel0, hf0⟩ := h0
  obtain ⟨c0, hc0, hin0⟩ := openCirc hf0 (fun b hb => by
    have := List.all_eq_true.1 hwt b (DataW.weights_mem_each (j := 0) (t := 25) rfl rfl b hb)
    simpa using this)
  have e0 : Value.agg cs0 = c0.val := by
    have : cs0 = c0.cells.toArray := by rw [← hc0]; simp [Value.cells]
    rw [this]
  obtain ⟨a1, rfl, rfl, rfl, w1⟩ := open_int Try.underlying3 (hval 1 3 v1 rfl rfl) h1
  have b1 := bounds_i64 w1
  obtain ⟨a2, rfl, rfl, rfl, w2⟩ := open_int Try.underlying3 (hval 2 3 v2 rfl rfl) h2
  have b2 := bounds_i64 w2
  have hcall := RelaysRests_ok c0 a1 a2 W hin0 b1.2 b2.2
  rw [e0]
  rw [e0] at hW'
  unfold Sp at hcall
  refine Calls.mono hcall fun e W' ⟨v, l, he, hR, ho⟩ => ⟨v, he, ?_⟩
  obtain ⟨rfl, rfl⟩ := hR
  exact law_post hW' rfl ho.below rfl rfl rfl rfl (by rw [Try.params10]; intro t ht; simp at ht; rcases ht with rfl | rfl <;> exact ⟨by kernel_rfl, of_decide_eq_true (by kernel_rfl)⟩)
theorem relaysRests_over : Rows.relaysRestsRow.holds Try.pinned (OpenSpec.ofChange Rows.relaysRestsSpec) :=
  OpenClaim.holds_of_wide 10 Try.f10 rfl rfl rfl rfl rfl rfl rfl ⟨rfl, rfl, rfl, rfl, rfl⟩ rfl rfl rfl rfl rfl (by kernel_rfl) Try.func10 (by kernel_rfl)
    (of_decide_eq_true (by kernel_rfl)) (by unfold Func.isWrapper; first | (rw [if_pos (by decide +kernel)]; kernel_rfl) | (rw [if_neg (by decide +kernel)]; exact ⟨rfl, rfl⟩))
    (fun os started H enc _ => relaysRests_lifted os started H enc)
theorem relaysRests_proved : Rows.RelaysRestsSaid := relaysRests_over
end Go.Proofs.Yteocjpnckciboaa
