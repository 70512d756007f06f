import Derived.Test.YthcbcdjkfefnlaaSa
import Derived.Deep.Slices
import Derived.Deep.Strs
import Derived.Lib.SmallJoins
import Derived.SizedLaws
import Derived.OpenShut
import Derived.Test.YthcbcdjkfefnlaaRows
import Derived.Carry
import Derived.ProofKit
/- The row of a law; bytes as an argument. -/
set_option linter.unusedSimpArgs false
set_option linter.unusedVariables false
set_option linter.unnecessarySimpa false
set_option autoImplicit false
set_option linter.unusedVariables false
namespace Go.Proofs.Ythcbcdjkfefnlaa
open Go.Gv
open Go.RowKit Go.ChangeShapes Go.WideShapes
open Iv
theorem tryLaid : laidOutB Try.prog = true := by kernel_rfl
theorem tryOwn : ownKnob Try.prog.godebug = none := by kernel_rfl
theorem stays {H : Type} {enc : TypeId × Value → H} {W W' : World} (hb : Below W.heap.size W W') {sp : Nat → Bool} : ∀ {ts : List TypeId} {vs : List Value} {ds : List (DataW H)} {p : List MemPlace},
    DataW.TrodAll enc Try.prog W 0 (fun _ => true) true ts vs ds p → (∀ t ∈ ts, Try.prog.readableRec t = true ∧ t < Try.prog.types.size) → (∀ x ∈ p, x.block < W.heap.size) → (∀ x ∈ p, sp x.block = true) → DataW.TrodAll enc Try.prog W' 0 sp true ts vs ds p
  | [], _, _, _, h, _, _, _ => by
    obtain ⟨rfl, rfl, rfl⟩ := trodAll_nil h
    exact h
  | t :: ts, _, _, _, h, hr, hlt, hsp => by
    obtain ⟨v, vs1, d, ds1, a, b, rfl, rfl, rfl, h1, h2⟩ := trodAll_cons h
    have hr1 := hr t (by simp)
    exact ⟨a, b, WideElems.Trod_stays tryLaid hr1.1 hr1.2 h1 (fun x hx => hb.same (hlt x (List.mem_append_left _ hx))) (fun x hx => hsp x (List.mem_append_left _ hx)),
      stays hb h2 (fun u hu => hr u (List.mem_cons_of_mem _ hu)) (fun x hx => hlt x (List.mem_append_right _ hx)) (fun x hx => hsp x (List.mem_append_right _ hx)), rfl⟩
set_option maxRecDepth 100000 in
/-- the law's row: it returned true, and nothing that was there has turned -/
theorem law_post {H : Type} {enc : TypeId × Value → H} {f : Func} {s : ChangeSpec} {fresh handsOn again : Bool} {W W' : World} {args : Array Value} {ds gs : List (DataW H)} {before : List MemPlace}
    (hW : DataW.Whole enc Try.prog f.params.toList s.vars false W args.toList ds gs before) (hv : s.vars = []) (hb : Below W.heap.size W W')
    (hrt : f.resultTypes = #[4]) (hres : (s.fn H ds).results = [.lit (.bool true)]) (hargs : (s.fn H ds).args = ds) (hvars : (s.fn H ds).vars = []) (hr : ∀ t ∈ f.params.toList, Try.prog.readableRec t = true ∧ t < Try.prog.types.size) :
    s.post enc Try.prog f false fresh handsOn again W args (.bool true) W' := by
  have hlt : ∀ x ∈ before, x.block < W.heap.size := fun x hx => by simpa using hW.lt x hx
  have hW0 := hW
  obtain ⟨p, q, hA, hV, rfl, hz, hn⟩ := hW
  rw [hv] at hV
  obtain ⟨rfl, rfl⟩ := trodVars_none hV
  simp only [List.append_nil] at hz hlt hW0
  have hR : ∀ (b : Nat) (sp : Nat → Bool) (hd : Bool), DataW.TrodAll enc Try.prog W' b sp hd f.resultTypes.toList ((Value.bool true).resultList f.resultTypes.size) (s.fn H (ds ++ [])).results [] := fun b sp hd => by
    rw [List.append_nil, hres, hrt]
    exact trodAll_cons_mk (shut_bool Try.underlying4 _) trodAll_mk0
  have hA' : ∀ sp : Nat → Bool, (∀ x ∈ p, sp x.block = true) → DataW.TrodAll enc Try.prog W' 0 sp true f.params.toList args.toList (s.fn H (ds ++ [])).args p := fun sp hsp => by
    rw [List.append_nil, hargs]; exact stays hb hA hr hlt hsp
  have hVv : ∀ sp : Nat → Bool, DataW.TrodVars enc Try.prog W' sp s.vars (s.fn H (ds ++ [])).vars [] := fun sp => by
    rw [List.append_nil, hv, hvars]; rfl
  have hok : ∀ (j : Nat) (t : TypeId) (r : Value), f.resultTypes[j]? = some t → ((Value.bool true).resultList f.resultTypes.size)[j]? = some r → Value.okWide Try.prog W' .any 0 t r := ok_one hrt rfl (okWide_bool_mk Try.underlying4 _)
  refine ⟨ds, [], p, [], p, [], hW0, hR _ _ _, hA' _ (fun x hx => by simpa using hlt x hx), hVv _, World.keptBut_mono (fun x hx => ⟨hx, .inr (by simpa using hx)⟩) (hb.frame _), fun _ => ?_⟩
  refine ⟨hok, _, _, ([] ++ p) ++ [], ⟨[] ++ p, [], trodAll_append (hA' (fun _ => true) (fun _ _ => rfl)) (hR _ _ _), hVv _, rfl, ?_, fun h => by cases h⟩, ?_⟩
  · intro b off hp
    have hp' : MemPlace.cell b off ∈ p := by simpa using hp
    rw [hb.frozen (p := ⟨b, off, none⟩) (hlt _ hp')]
    exact hz b off hp'
  · intro x hx _
    simpa using hx
end Go.Proofs.Ythcbcdjkfefnlaa

set_option autoImplicit false
set_option linter.unusedVariables false
namespace Go.Proofs.Ythcbcdjkfefnlaa
open Go.Gv
open Go.RowKit Go.Deep Go.ChangeShapes Go.WideShapes
namespace Iv
section
variable {H : Type} {enc : TypeId × Value → H} {W : World} {base : Nat} {sp : Nat → Bool} {held : Bool}
theorem openU8 {n : Nat} {cs : List Value} {x : DataW H × List MemPlace} (h : DataW.trod enc Try.prog W base sp held n 36 cs = some x) (hw : ∀ b ∈ x.1.weights Try.prog 36, b ≤ reachBytes) :
    ∃ (a : Option Addr) (zs : List Nat) (cp : Nat), cs = [.slice a zs.length cp] ∧ OldSl W [] a zs.length 1 (zs.map fun n : Nat => Value.int .u8 (n : Int)) ∧ zs.length ≤ 140737488355328 ∧ ∀ n ∈ zs, n < 256 := by
  rcases open_slice1 Try.underlying36 (by kernel_rfl) h with ⟨rfl, rfl⟩ | ⟨a, len, cap, m, k, V, D, Pl, rfl, hb, hl, hm, hmm, rfl, hx⟩
  · exact ⟨none, [], 0, rfl, ⟨rfl, fun h => absurd h (by decide), fun j v hv => by simp at hv, fun h => absurd h (by decide)⟩, by decide, by simp⟩
  · have hml : len ≤ m := by rw [hmm]; split <;> omega
    have hone : ∀ i, i < len → ∃ z : Nat, W.cell? (a.add i) = some (.int .u8 (z : Int)) ∧ z < 256 := fun i hi => by
      obtain ⟨h1, h2⟩ := hx i (by omega)
      obtain ⟨z, e, _, hwf⟩ := DataW.trod_int Try.underlying5 h2
      simp at e
      have hz : 0 ≤ z ∧ z < 256 := by
        simp only [Lit.wf, Bool.and_eq_true, decide_eq_true_eq] at hwf
        have e1 : IntKind.u8.min = 0 := rfl
        have e2 : IntKind.u8.max = 255 := rfl
        omega
      refine ⟨z.toNat, ?_, by omega⟩
      rw [h1, e]; congr 2; omega
    obtain ⟨g, hg⟩ := choose_lt (α := Nat) (p := fun i z => W.cell? (a.add i) = some (.int .u8 (z : Int)) ∧ z < 256) hone
    refine ⟨some a, (List.range len).map g, cap, by simp, ⟨by simp, fun _ => rfl, fun j v hv => ?_, fun _ => by simp⟩, ?_, ?_⟩
    · have hj : j < len := by
        have := (List.getElem?_eq_some_iff.1 hv).1
        simpa using this
      simp [hj] at hv
      rw [← hv]; exact (hg j hj).1
    · have := hw _ (by rw [DataW.weights]; simp only [Try.underlying36]; exact List.mem_cons_self)
      simp only [List.length_map, List.length_range] at this ⊢
      have h8 : Try.prog.bytesOf 5 = 1 := by kernel_rfl
      rw [h8] at this
      have := reachBytes_lt
      omega
    · intro q hq
      obtain ⟨i, hi, rfl⟩ := List.mem_map.1 hq
      exact (hg i (List.mem_range.1 hi)).2
end
end Iv
end Go.Proofs.Ythcbcdjkfefnlaa
