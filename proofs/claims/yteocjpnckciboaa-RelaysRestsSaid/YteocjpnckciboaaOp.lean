import Derived.Test.YteocjpnckciboaaMd
import Derived.Deep.Slices
import Derived.Deep.Strs
import Derived.SizedLaws
import Derived.OpenShut
import Derived.Test.YteocjpnckciboaaWb
import Derived.Test.YteocjpnckciboaaRows
import Derived.Carry
import Derived.ProofKit
/- A circuit as an argument, and the row of a law. -/
set_option linter.unusedSimpArgs false
set_option linter.unusedVariables false
set_option linter.unnecessarySimpa false
set_option autoImplicit false
set_option linter.unusedVariables false
namespace Go.Proofs.Yteocjpnckciboaa
open Go.Gv
open Go.RowKit Go.Deep Go.ChangeShapes Go.WideShapes
namespace Ry
section
variable {H : Type} {enc : TypeId × Value → H} {W : World} {base : Nat} {sp : Nat → Bool} {held : Bool}
theorem cells_at {a : Addr} {n : Nat} {cs : List Value} (h : W.cells? base a n = some cs) : cs.length = n ∧ ∀ i v, cs[i]? = some v → W.cell? (a.add i) = some v := by
  obtain ⟨_, h1, h2⟩ := World.cells?_some h
  refine ⟨h1, fun i v hv => ?_⟩
  have hi := (List.getElem?_eq_some_iff.1 hv).1
  rw [h2 i (by omega)]; exact hv
theorem openInts {n : Nat} {cs : List Value} {x : DataW H × List MemPlace} (h : DataW.trod enc Try.prog W base sp held n 23 cs = some x) (hw : ∀ b ∈ x.1.weights Try.prog 23, b ≤ reachBytes) :
    ∃ (a : Option Addr) (zs : List Int) (cp : Nat), cs = [.slice a zs.length cp] ∧ OldSl W [] a zs.length 1 (zs.map intV) ∧ zs.length ≤ 140737488355328 := by
  rcases open_slice1 Try.underlying23 (by kernel_rfl) h with ⟨rfl, rfl⟩ | ⟨a, len, cap, m, k, V, D, Pl, rfl, hb, hl, hm, hmm, rfl, hx⟩
  · exact ⟨none, [], 0, rfl, ⟨rfl, fun h => absurd h (by decide), fun j v hv => by simp at hv, fun h => absurd h (by decide)⟩, by decide⟩
  · have hml : len ≤ m := by rw [hmm]; split <;> omega
    refine ⟨some a, (List.range len).map fun i => match V i with | .int _ z => z | _ => 0, cap, by simp, ⟨by simp, fun _ => rfl, fun j v hv => ?_, fun _ => by simp⟩, ?_⟩
    · simp only [List.getElem?_map, List.getElem?_range, Option.map_map] at hv
      by_cases hj : j < len
      · rw [List.getElem?_range hj] at hv
        obtain ⟨h1, h2⟩ := hx j (by omega)
        obtain ⟨z, e, _⟩ := DataW.trod_int Try.underlying3 h2
        simp at e
        simp only [Option.map_some, Function.comp, Option.some.injEq] at hv
        rw [e] at hv h1
        subst hv
        exact h1
      · rw [List.getElem?_eq_none (by simpa using hj)] at hv; simp at hv
    · have := hw _ (by rw [DataW.weights]; simp only [Try.underlying23]; exact List.mem_cons_self)
      simp only [List.length_map, List.length_range] at this ⊢
      have h8 : Try.prog.bytesOf 3 = 8 := by kernel_rfl
      rw [h8] at this
      have := reachBytes_lt
      omega
theorem len2 {cs : List Value} (h : cs.length = 2) : ∃ u v, cs = [u, v] := by
  match cs, h with
  | [u, v], _ => exact ⟨u, v, rfl⟩
theorem len3 {cs : List Value} (h : cs.length = 3) : ∃ u v q, cs = [u, v, q] := by
  match cs, h with
  | [u, v, q], _ => exact ⟨u, v, q, rfl⟩
def GOk (W : World) (g : Gate) : Prop := OldSl W [] g.ia g.ins.length 1 (g.ins.map intV) ∧ g.ins.length ≤ 140737488355328
theorem openGate {n : Nat} {cs : List Value} {x : DataW H × List MemPlace} (h : DataW.trod enc Try.prog W base sp held n 48 cs = some x) (hw : ∀ b ∈ x.1.weights Try.prog 48, b ≤ reachBytes) :
    ∃ g : Gate, cs = g.cells ∧ GOk W g := by
  obtain ⟨y0, y1, k, rfl, hl, h0, h1⟩ := trod_struct2 Try.underlying48 h
  have e48 : Try.prog.cellsOf 48 = 2 := by kernel_rfl
  have e3 : Try.prog.cellsOf 3 = 1 := by kernel_rfl
  have e23 : Try.prog.cellsOf 23 = 1 := by kernel_rfl
  rw [e48] at hl
  obtain ⟨u, v, rfl⟩ := len2 hl
  · simp only [e3, e23, List.drop_zero, List.take_succ_cons, List.take_zero, List.drop_succ_cons] at h0 h1
    obtain ⟨z, e, _⟩ := DataW.trod_int Try.underlying3 h0
    obtain ⟨a, zs, cp, e1, h2, h3⟩ := openInts h1 (fun b hb => hw b (by
      rw [DataW.weights]
      simp only [Try.underlying48]
      show b ∈ DataW.weightsEach Try.prog [3, 23] [y0.1, y1.1]
      simp only [DataW.weightsEach, List.append_nil]
      exact List.mem_append_right _ hb))
    simp only [List.cons.injEq, and_true] at e e1
    exact ⟨⟨z, a, cp, zs⟩, by rw [e, e1], h2, h3⟩
theorem weightsAll_mem {P : Program} {e : TypeId} : ∀ {l : List (DataW H)} {d : DataW H}, d ∈ l → ∀ b ∈ d.weights P e, b ∈ DataW.weightsAll P e l
  | y :: l, d, hd, b, hb => by
    rw [DataW.weightsAll]
    rcases List.mem_cons.1 hd with rfl | hd
    · exact List.mem_append_left _ hb
    · exact List.mem_append_right _ (weightsAll_mem hd b hb)
  | [], d, hd, _, _ => by cases hd
theorem openGates {n : Nat} {cs : List Value} {x : DataW H × List MemPlace} (h : DataW.trod enc Try.prog W base sp held n 22 cs = some x) (hw : ∀ b ∈ x.1.weights Try.prog 22, b ≤ reachBytes) :
    ∃ (a : Option Addr) (gs : List Gate) (cp : Nat), cs = [.slice a gs.length cp] ∧ OldSl W [] a gs.length 2 (gs.flatMap Gate.cells) ∧ (∀ g ∈ gs, GOk W g) ∧ gs.length ≤ 140737488355328 := by
  rcases open_slice Try.underlying22 h with ⟨rfl, rfl⟩ | ⟨a, len, cap, m, k, D, Pl, rfl, hb, hl, hm, hmm, rfl, hx⟩
  · exact ⟨none, [], 0, rfl, ⟨rfl, fun h => absurd h (by decide), fun j v hv => by simp at hv, fun h => absurd h (by decide)⟩, by simp, by decide⟩
  · have hml : len ≤ m := by rw [hmm]; split <;> omega
    have e48 : Try.prog.cellsOf 48 = 2 := by kernel_rfl
    rw [e48] at hx
    have hwt : ∀ b ∈ DataW.weights Try.prog 22 (.slice ((List.range len).map D) ((List.range (m - len)).map fun j => D (len + j))), b ≤ reachBytes := hw
    rw [DataW.weights] at hwt
    simp only [Try.underlying22] at hwt
    have hwD : ∀ i, i < len → ∀ b ∈ (D i).weights Try.prog 48, b ≤ reachBytes := fun i hi b hb =>
      hwt b (List.mem_cons_of_mem _ (List.mem_append_left _ (weightsAll_mem (List.mem_map.2 ⟨i, List.mem_range.2 hi, rfl⟩) b hb)))
    have hone : ∀ i, i < len → ∃ g : Gate, (∀ j v, g.cells[j]? = some v → W.cell? ((a.add (i * 2)).add j) = some v) ∧ GOk W g := fun i hi => by
      obtain ⟨cs', h1, h2⟩ := hx i (by omega)
      obtain ⟨g, rfl, h3⟩ := openGate h2 (hwD i hi)
      exact ⟨g, (cells_at h1).2, h3⟩
    obtain ⟨g, hg⟩ := choose_lt (α := Gate) (p := fun i g => (∀ j v, g.cells[j]? = some v → W.cell? ((a.add (i * 2)).add j) = some v) ∧ GOk W g) hone
    refine ⟨some a, (List.range len).map g, cap, by simp, ⟨by rw [flat_len Gate.cells 2 fun _ => rfl], fun _ => rfl, fun j v hv => ?_, fun _ => by simp⟩, ?_, ?_⟩
    · have hj : j < ((List.range len).map g).length * 2 := by
        have := (List.getElem?_eq_some_iff.1 hv).1
        rwa [flat_len Gate.cells 2 fun _ => rfl] at this
      simp only [List.length_map, List.length_range] at hj
      have hi : j / 2 < len := by omega
      have e : j = j / 2 * 2 + j % 2 := by omega
      have hget : ((List.range len).map g)[j / 2]? = some (g (j / 2)) := by simp [hi]
      have hv2 : (g (j / 2)).cells[j % 2]? = some v := by
        have hlt : j % 2 < (g (j / 2)).cells.length := Nat.mod_lt _ (by decide)
        have h5 := get_flat Gate.cells 2 (fun _ => rfl) hget (j := j % 2) (Nat.mod_lt _ (by decide)) (List.getElem?_eq_getElem hlt)
        rw [← e, hv] at h5
        rw [List.getElem?_eq_getElem hlt]
        exact h5.symm
      have := (hg (j / 2) hi).1 (j % 2) v hv2
      rw [Gv.add_add, ← e] at this
      exact this
    · intro q hq
      obtain ⟨i, hi, rfl⟩ := List.mem_map.1 hq
      exact (hg i (List.mem_range.1 hi)).2
    · have := hwt _ List.mem_cons_self
      simp only [List.length_map, List.length_range] at this ⊢
      have h8 : Try.prog.bytesOf 48 = 32 := by kernel_rfl
      rw [h8] at this
      have := reachBytes_lt
      omega
theorem openCirc {n : Nat} {cs : List Value} {x : DataW H × List MemPlace} (h : DataW.trod enc Try.prog W base sp held n 25 cs = some x) (hw : ∀ b ∈ x.1.weights Try.prog 25, b ≤ reachBytes) :
    ∃ c : Circ, cs = c.cells ∧ c.In W [] := by
  obtain ⟨y0, y1, y2, k, rfl, hl, h0, h1, h2⟩ := trod_struct3 Try.underlying25 h
  have e25 : Try.prog.cellsOf 25 = 3 := by kernel_rfl
  have e3 : Try.prog.cellsOf 3 = 1 := by kernel_rfl
  have e22 : Try.prog.cellsOf 22 = 1 := by kernel_rfl
  have e23 : Try.prog.cellsOf 23 = 1 := by kernel_rfl
  rw [e25] at hl
  have hw' : ∀ b ∈ DataW.weightsEach Try.prog [3, 22, 23] [y0.1, y1.1, y2.1], b ≤ reachBytes := fun b hb => hw b (by
    rw [DataW.weights]
    simp only [Try.underlying25]
    exact hb)
  simp only [DataW.weightsEach, List.append_nil] at hw'
  obtain ⟨u, v, q, rfl⟩ := len3 hl
  · simp only [e3, e22, e23, List.drop_zero, List.take_succ_cons, List.take_zero, List.drop_succ_cons] at h0 h1 h2
    obtain ⟨z, e, _⟩ := DataW.trod_int Try.underlying3 h0
    obtain ⟨a, gs, cp, e1, g1, g2, g3⟩ := openGates h1 (fun b hb => hw' b (List.mem_append_right _ (List.mem_append_left _ hb)))
    obtain ⟨oa, os, oc, e2, o1, o2⟩ := openInts h2 (fun b hb => hw' b (List.mem_append_right _ (List.mem_append_right _ hb)))
    simp only [List.cons.injEq, and_true] at e e1 e2
    exact ⟨⟨z, a, cp, gs, oa, oc, os⟩, by rw [e, e1, e2], ⟨g1, fun g hg => (g2 g hg).1, o1, g3, fun g hg => (g2 g hg).2, o2⟩⟩
end
end Ry
end Go.Proofs.Yteocjpnckciboaa

set_option autoImplicit false
set_option linter.unusedVariables false
namespace Go.Proofs.Yteocjpnckciboaa
open Go.Gv
open Go.RowKit Go.ChangeShapes Go.WideShapes
open Ry
theorem tryLaid : laidOutB Try.prog = true := by kernel_rfl
theorem tryOwn : ownKnob Try.prog.godebug = none := by kernel_rfl
theorem stays {H : Type} {enc : TypeId × Value → H} {W W' : World} (hb : Below W.heap.size W W') {sp : Nat → Bool} : ∀ {ts : List TypeId} {vs : List Value} {ds : List (DataW H)} {p : List MemPlace},
    DataW.TrodAll enc Try.prog W 0 (fun _ => true) true ts vs ds p → (∀ t ∈ ts, Try.prog.readableRec t = true ∧ t < Try.prog.types.size) → (∀ x ∈ p, x.block < W.heap.size) → (∀ x ∈ p, sp x.block = true) → DataW.TrodAll enc Try.prog W' 0 sp true ts vs ds p
  | [], _, _, _, h, _, _, _ => by
    obtain ⟨rfl, rfl, rfl⟩ := trodAll_nil h
    exact h
  | t :: ts, _, _, _, h, hr, hlt, hsp => by
    obtain ⟨v, vs1, d, ds1, a, b, rfl, rfl, rfl, h1, h2⟩ := trodAll_cons h
    have hr1 := hr t (by simp)
    exact ⟨a, b, WideElems.Trod_stays tryLaid hr1.1 hr1.2 h1 (fun x hx => hb.same (hlt x (List.mem_append_left _ hx))) (fun x hx => hsp x (List.mem_append_left _ hx)),
      stays hb h2 (fun u hu => hr u (List.mem_cons_of_mem _ hu)) (fun x hx => hlt x (List.mem_append_right _ hx)) (fun x hx => hsp x (List.mem_append_right _ hx)), rfl⟩
set_option maxRecDepth 100000 in
/-- the law's row: it returned true, and nothing that was there has turned -/
theorem law_post {H : Type} {enc : TypeId × Value → H} {f : Func} {s : ChangeSpec} {fresh handsOn again : Bool} {W W' : World} {args : Array Value} {ds gs : List (DataW H)} {before : List MemPlace}
    (hW : DataW.Whole enc Try.prog f.params.toList s.vars false W args.toList ds gs before) (hv : s.vars = []) (hb : Below W.heap.size W W')
    (hrt : f.resultTypes = #[4]) (hres : (s.fn H ds).results = [.lit (.bool true)]) (hargs : (s.fn H ds).args = ds) (hvars : (s.fn H ds).vars = []) (hr : ∀ t ∈ f.params.toList, Try.prog.readableRec t = true ∧ t < Try.prog.types.size) :
    s.post enc Try.prog f false fresh handsOn again W args (.bool true) W' := by
  have hlt : ∀ x ∈ before, x.block < W.heap.size := fun x hx => by simpa using hW.lt x hx
  have hW0 := hW
  obtain ⟨p, q, hA, hV, rfl, hz, hn⟩ := hW
  rw [hv] at hV
  obtain ⟨rfl, rfl⟩ := trodVars_none hV
  simp only [List.append_nil] at hz hlt hW0
  have hR : ∀ (b : Nat) (sp : Nat → Bool) (hd : Bool), DataW.TrodAll enc Try.prog W' b sp hd f.resultTypes.toList ((Value.bool true).resultList f.resultTypes.size) (s.fn H (ds ++ [])).results [] := fun b sp hd => by
    rw [List.append_nil, hres, hrt]
    exact trodAll_cons_mk (shut_bool Try.underlying4 _) trodAll_mk0
  have hA' : ∀ sp : Nat → Bool, (∀ x ∈ p, sp x.block = true) → DataW.TrodAll enc Try.prog W' 0 sp true f.params.toList args.toList (s.fn H (ds ++ [])).args p := fun sp hsp => by
    rw [List.append_nil, hargs]; exact stays hb hA hr hlt hsp
  have hVv : ∀ sp : Nat → Bool, DataW.TrodVars enc Try.prog W' sp s.vars (s.fn H (ds ++ [])).vars [] := fun sp => by
    rw [List.append_nil, hv, hvars]; rfl
  have hok : ∀ (j : Nat) (t : TypeId) (r : Value), f.resultTypes[j]? = some t → ((Value.bool true).resultList f.resultTypes.size)[j]? = some r → Value.okWide Try.prog W' .any 0 t r := ok_one hrt rfl (okWide_bool_mk Try.underlying4 _)
  refine ⟨ds, [], p, [], p, [], hW0, hR _ _ _, hA' _ (fun x hx => by simpa using hlt x hx), hVv _, World.keptBut_mono (fun x hx => ⟨hx, .inr (by simpa using hx)⟩) (hb.frame _), fun _ => ?_⟩
  refine ⟨hok, _, _, ([] ++ p) ++ [], ⟨[] ++ p, [], trodAll_append (hA' (fun _ => true) (fun _ _ => rfl)) (hR _ _ _), hVv _, rfl, ?_, fun h => by cases h⟩, ?_⟩
  · intro b off hp
    have hp' : MemPlace.cell b off ∈ p := by simpa using hp
    rw [hb.frozen (p := ⟨b, off, none⟩) (hlt _ hp')]
    exact hz b off hp'
  · intro x hx _
    simpa using hx
end Go.Proofs.Yteocjpnckciboaa
