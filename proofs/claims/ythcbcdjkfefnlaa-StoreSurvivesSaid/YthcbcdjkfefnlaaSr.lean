import Derived.Test.YthcbcdjkfefnlaaSa
import Derived.Deep.Slices
import Derived.Deep.Strs
import Derived.Lib.SmallJoins
import Derived.SizedLaws
import Derived.OpenShut
import Derived.Test.YthcbcdjkfefnlaaRows
import Derived.Carry
import Derived.ProofKit
import Derived.Test.YthcbcdjkfefnlaaSh
/- The row of a law; bytes and acts as arguments. -/
set_option linter.unusedSimpArgs false
set_option linter.unusedVariables false
set_option linter.unnecessarySimpa false
set_option autoImplicit false
set_option linter.unusedVariables false
namespace Go.Proofs.Ythcbcdjkfefnlaa
open Go.Gv
open Go.RowKit Go.ChangeShapes Go.WideShapes
open Iv
theorem tryLaid : laidOutB Try.prog = true := by kernel_rfl
theorem tryOwn : ownKnob Try.prog.godebug = none := by kernel_rfl
theorem stays {H : Type} {enc : TypeId × Value → H} {W W' : World} (hb : Below W.heap.size W W') {sp : Nat → Bool} : ∀ {ts : List TypeId} {vs : List Value} {ds : List (DataW H)} {p : List MemPlace},
    DataW.TrodAll enc Try.prog W 0 (fun _ => true) true ts vs ds p → (∀ t ∈ ts, Try.prog.readableRec t = true ∧ t < Try.prog.types.size) → (∀ x ∈ p, x.block < W.heap.size) → (∀ x ∈ p, sp x.block = true) → DataW.TrodAll enc Try.prog W' 0 sp true ts vs ds p
  | [], _, _, _, h, _, _, _ => by
    obtain ⟨rfl, rfl, rfl⟩ := trodAll_nil h
    exact h
  | t :: ts, _, _, _, h, hr, hlt, hsp => by
    obtain ⟨v, vs1, d, ds1, a, b, rfl, rfl, rfl, h1, h2⟩ := trodAll_cons h
    have hr1 := hr t (by simp)
    exact ⟨a, b, WideElems.Trod_stays tryLaid hr1.1 hr1.2 h1 (fun x hx => hb.same (hlt x (List.mem_append_left _ hx))) (fun x hx => hsp x (List.mem_append_left _ hx)),
      stays hb h2 (fun u hu => hr u (List.mem_cons_of_mem _ hu)) (fun x hx => hlt x (List.mem_append_right _ hx)) (fun x hx => hsp x (List.mem_append_right _ hx)), rfl⟩
set_option maxRecDepth 100000 in
/-- the law's row: it returned true, and nothing that was there has turned -/
theorem law_post {H : Type} {enc : TypeId × Value → H} {f : Func} {s : ChangeSpec} {fresh handsOn again : Bool} {W W' : World} {args : Array Value} {ds gs : List (DataW H)} {before : List MemPlace}
    (hW : DataW.Whole enc Try.prog f.params.toList s.vars false W args.toList ds gs before) (hv : s.vars = []) (hb : Below W.heap.size W W')
    (hrt : f.resultTypes = #[4]) (hres : (s.fn H ds).results = [.lit (.bool true)]) (hargs : (s.fn H ds).args = ds) (hvars : (s.fn H ds).vars = []) (hr : ∀ t ∈ f.params.toList, Try.prog.readableRec t = true ∧ t < Try.prog.types.size) :
    s.post enc Try.prog f false fresh handsOn again W args (.bool true) W' := by
  have hlt : ∀ x ∈ before, x.block < W.heap.size := fun x hx => by simpa using hW.lt x hx
  have hW0 := hW
  obtain ⟨p, q, hA, hV, rfl, hz, hn⟩ := hW
  rw [hv] at hV
  obtain ⟨rfl, rfl⟩ := trodVars_none hV
  simp only [List.append_nil] at hz hlt hW0
  have hR : ∀ (b : Nat) (sp : Nat → Bool) (hd : Bool), DataW.TrodAll enc Try.prog W' b sp hd f.resultTypes.toList ((Value.bool true).resultList f.resultTypes.size) (s.fn H (ds ++ [])).results [] := fun b sp hd => by
    rw [List.append_nil, hres, hrt]
    exact trodAll_cons_mk (shut_bool Try.underlying4 _) trodAll_mk0
  have hA' : ∀ sp : Nat → Bool, (∀ x ∈ p, sp x.block = true) → DataW.TrodAll enc Try.prog W' 0 sp true f.params.toList args.toList (s.fn H (ds ++ [])).args p := fun sp hsp => by
    rw [List.append_nil, hargs]; exact stays hb hA hr hlt hsp
  have hVv : ∀ sp : Nat → Bool, DataW.TrodVars enc Try.prog W' sp s.vars (s.fn H (ds ++ [])).vars [] := fun sp => by
    rw [List.append_nil, hv, hvars]; rfl
  have hok : ∀ (j : Nat) (t : TypeId) (r : Value), f.resultTypes[j]? = some t → ((Value.bool true).resultList f.resultTypes.size)[j]? = some r → Value.okWide Try.prog W' .any 0 t r := ok_one hrt rfl (okWide_bool_mk Try.underlying4 _)
  refine ⟨ds, [], p, [], p, [], hW0, hR _ _ _, hA' _ (fun x hx => by simpa using hlt x hx), hVv _, World.keptBut_mono (fun x hx => ⟨hx, .inr (by simpa using hx)⟩) (hb.frame _), fun _ => ?_⟩
  refine ⟨hok, _, _, ([] ++ p) ++ [], ⟨[] ++ p, [], trodAll_append (hA' (fun _ => true) (fun _ _ => rfl)) (hR _ _ _), hVv _, rfl, ?_, fun h => by cases h⟩, ?_⟩
  · intro b off hp
    have hp' : MemPlace.cell b off ∈ p := by simpa using hp
    rw [hb.frozen (p := ⟨b, off, none⟩) (hlt _ hp')]
    exact hz b off hp'
  · intro x hx _
    simpa using hx
end Go.Proofs.Ythcbcdjkfefnlaa

set_option autoImplicit false
set_option linter.unusedVariables false
namespace Go.Proofs.Ythcbcdjkfefnlaa
open Go.Gv
open Go.RowKit Go.Deep Go.ChangeShapes Go.WideShapes
namespace Iv
section
variable {H : Type} {enc : TypeId × Value → H} {W : World} {base : Nat} {sp : Nat → Bool} {held : Bool}
theorem openU8 {n : Nat} {cs : List Value} {x : DataW H × List MemPlace} (h : DataW.trod enc Try.prog W base sp held n 36 cs = some x) (hw : ∀ b ∈ x.1.weights Try.prog 36, b ≤ reachBytes) :
    ∃ (a : Option Addr) (zs : List Nat) (cp : Nat), cs = [.slice a zs.length cp] ∧ OldSl W [] a zs.length 1 (zs.map fun n : Nat => Value.int .u8 (n : Int)) ∧ zs.length ≤ 140737488355328 ∧ ∀ n ∈ zs, n < 256 := by
  rcases open_slice1 Try.underlying36 (by kernel_rfl) h with ⟨rfl, rfl⟩ | ⟨a, len, cap, m, k, V, D, Pl, rfl, hb, hl, hm, hmm, rfl, hx⟩
  · exact ⟨none, [], 0, rfl, ⟨rfl, fun h => absurd h (by decide), fun j v hv => by simp at hv, fun h => absurd h (by decide)⟩, by decide, by simp⟩
  · have hml : len ≤ m := by rw [hmm]; split <;> omega
    have hone : ∀ i, i < len → ∃ z : Nat, W.cell? (a.add i) = some (.int .u8 (z : Int)) ∧ z < 256 := fun i hi => by
      obtain ⟨h1, h2⟩ := hx i (by omega)
      obtain ⟨z, e, _, hwf⟩ := DataW.trod_int Try.underlying5 h2
      simp at e
      have hz : 0 ≤ z ∧ z < 256 := by
        simp only [Lit.wf, Bool.and_eq_true, decide_eq_true_eq] at hwf
        have e1 : IntKind.u8.min = 0 := rfl
        have e2 : IntKind.u8.max = 255 := rfl
        omega
      refine ⟨z.toNat, ?_, by omega⟩
      rw [h1, e]; congr 2; omega
    obtain ⟨g, hg⟩ := choose_lt (α := Nat) (p := fun i z => W.cell? (a.add i) = some (.int .u8 (z : Int)) ∧ z < 256) hone
    refine ⟨some a, (List.range len).map g, cap, by simp, ⟨by simp, fun _ => rfl, fun j v hv => ?_, fun _ => by simp⟩, ?_, ?_⟩
    · have hj : j < len := by
        have := (List.getElem?_eq_some_iff.1 hv).1
        simpa using this
      simp [hj] at hv
      rw [← hv]; exact (hg j hj).1
    · have := hw _ (by rw [DataW.weights]; simp only [Try.underlying36]; exact List.mem_cons_self)
      simp only [List.length_map, List.length_range] at this ⊢
      have h8 : Try.prog.bytesOf 5 = 1 := by kernel_rfl
      rw [h8] at this
      have := reachBytes_lt
      omega
    · intro q hq
      obtain ⟨i, hi, rfl⟩ := List.mem_map.1 hq
      exact (hg i (List.mem_range.1 hi)).2
end
end Iv
end Go.Proofs.Ythcbcdjkfefnlaa

set_option autoImplicit false
set_option linter.unusedVariables false
namespace Go.Proofs.Ythcbcdjkfefnlaa
open Go.Gv
open Go.RowKit Go.Deep Go.ChangeShapes Go.WideShapes
namespace Iv
section
variable {H : Type} {enc : TypeId × Value → H} {W : World} {base : Nat} {sp : Nat → Bool} {held : Bool}
theorem cells_at {a : Addr} {n : Nat} {cs : List Value} (h : W.cells? base a n = some cs) : cs.length = n ∧ ∀ i v, cs[i]? = some v → W.cell? (a.add i) = some v := by
  obtain ⟨_, h1, h2⟩ := World.cells?_some h
  refine ⟨h1, fun i v hv => ?_⟩
  have hi := (List.getElem?_eq_some_iff.1 hv).1
  rw [h2 i (by omega)]; exact hv
theorem weightsAll_mem {P : Program} {e : TypeId} : ∀ {l : List (DataW H)} {d : DataW H}, d ∈ l → ∀ b ∈ d.weights P e, b ∈ DataW.weightsAll P e l
  | y :: l, d, hd, b, hb => by
    rw [DataW.weightsAll]
    rcases List.mem_cons.1 hd with rfl | hd
    · exact List.mem_append_left _ hb
    · exact List.mem_append_right _ (weightsAll_mem hd b hb)
  | [], d, hd, _, _ => by cases hd
/-- a slice of structs, each with what it points to -/
theorem openSlW {α : Type} [Inhabited α] (f : α → List Value) (G : α → Prop) (sz T E bb : Nat) (hf : ∀ x, (f x).length = sz) (hsz : 0 < sz) (hu : Try.prog.underlying T = some (.slice E)) (hc : Try.prog.cellsOf E = sz) (hB : Try.prog.bytesOf E = bb) (hbb : 8 ≤ bb) (hel : ∀ (n : Nat) (cs : List Value) (x : DataW H × List MemPlace), DataW.trod enc Try.prog W base sp held n E cs = some x → (∀ b ∈ x.1.weights Try.prog E, b ≤ reachBytes) → ∃ g : α, cs = f g ∧ G g) {n : Nat} {cs : List Value} {x : DataW H × List MemPlace} (h : DataW.trod enc Try.prog W base sp held n T cs = some x) (hw : ∀ b ∈ x.1.weights Try.prog T, b ≤ reachBytes) :
    ∃ (a : Option Addr) (gs : List α) (cp : Nat), cs = [.slice a gs.length cp] ∧ OldSl W [] a gs.length sz (gs.flatMap f) ∧ gs.length ≤ 140737488355328 ∧ ∀ g ∈ gs, G g := by
  rcases open_slice hu h with ⟨rfl, rfl⟩ | ⟨a, len, cap, m, k, D, Pl, rfl, hb, hl, hm, hmm, rfl, hx⟩
  · exact ⟨none, [], 0, rfl, ⟨by simp, fun h => absurd h (Nat.lt_irrefl 0), fun j v hv => by simp at hv, fun h => absurd h (Nat.lt_irrefl 0)⟩, Nat.zero_le _, by simp⟩
  · have hml : len ≤ m := by rw [hmm]; split <;> omega
    rw [hc] at hx
    have hwt : ∀ b ∈ DataW.weights Try.prog T (.slice ((List.range len).map D) ((List.range (m - len)).map fun j => D (len + j))), b ≤ reachBytes := hw
    rw [DataW.weights] at hwt
    simp only [hu] at hwt
    have hwD : ∀ i, i < len → ∀ b ∈ (D i).weights Try.prog E, b ≤ reachBytes := fun i hi b hb =>
      hwt b (List.mem_cons_of_mem _ (List.mem_append_left _ (weightsAll_mem (List.mem_map.2 ⟨i, List.mem_range.2 hi, rfl⟩) b hb)))
    have hone : ∀ i, i < len → ∃ g : α, (∀ j v, (f g)[j]? = some v → W.cell? ((a.add (i * sz)).add j) = some v) ∧ G g := fun i hi => by
      obtain ⟨cs', h1, h2⟩ := hx i (by omega)
      obtain ⟨g, rfl, h3⟩ := hel _ _ _ h2 (hwD i hi)
      exact ⟨g, (cells_at h1).2, h3⟩
    obtain ⟨g, hg⟩ := choose_lt (α := α) (p := fun i g => (∀ j v, (f g)[j]? = some v → W.cell? ((a.add (i * sz)).add j) = some v) ∧ G g) hone
    refine ⟨some a, (List.range len).map g, cap, by simp, ⟨by rw [flat_len f sz hf], fun _ => rfl, fun j v hv => ?_, fun _ => by simp⟩, ?_, fun q hq => ?_⟩
    · have hj : j < ((List.range len).map g).length * sz := by
        have := (List.getElem?_eq_some_iff.1 hv).1
        rwa [flat_len f sz hf] at this
      simp only [List.length_map, List.length_range] at hj
      have hi : j / sz < len := Nat.div_lt_of_lt_mul (by rw [Nat.mul_comm]; exact hj)
      have e : j = j / sz * sz + j % sz := (Nat.div_add_mod' j sz).symm
      have hget : ((List.range len).map g)[j / sz]? = some (g (j / sz)) := by simp [hi]
      have hv2 : (f (g (j / sz)))[j % sz]? = some v := by
        have hlt : j % sz < (f (g (j / sz))).length := by rw [hf]; exact Nat.mod_lt _ hsz
        have h5 := get_flat f sz hf hget (j := j % sz) (Nat.mod_lt _ hsz) (List.getElem?_eq_getElem hlt)
        rw [← e, hv] at h5
        rw [List.getElem?_eq_getElem hlt]
        exact h5.symm
      have := (hg (j / sz) hi).1 (j % sz) v hv2
      rw [Gv.add_add, ← e] at this
      exact this
    · have := hwt _ List.mem_cons_self
      simp only [List.length_map, List.length_range] at this ⊢
      rw [hB] at this
      have := reachBytes_lt
      have h9 : (len + (m - len)) * 8 ≤ (len + (m - len)) * bb := Nat.mul_le_mul_left _ hbb
      omega
    · obtain ⟨i, hi, rfl⟩ := List.mem_map.1 hq
      exact (hg i (List.mem_range.1 hi)).2
theorem trod_struct6' {t : TypeId} {P : Program} {w : World} {spare : Nat → Bool} {f0 f1 f2 f3 f4 f5 : Field} {fuel : Nat} {cs : List Value} {x : DataW H × List MemPlace} (ht : P.underlying t = some (.struct #[f0, f1, f2, f3, f4, f5])) (h : DataW.trod enc P w base spare held fuel t cs = some x) :
    ∃ y0 y1 y2 y3 y4 y5 n, x = (.agg [y0.1, y1.1, y2.1, y3.1, y4.1, y5.1], y0.2 ++ (y1.2 ++ (y2.2 ++ (y3.2 ++ (y4.2 ++ y5.2))))) ∧ cs.length = P.cellsOf t ∧ DataW.trod enc P w base spare held n f0.type ((cs.drop f0.offset).take (P.cellsOf f0.type)) = some y0 ∧
      DataW.trod enc P w base spare held n f1.type ((cs.drop f1.offset).take (P.cellsOf f1.type)) = some y1 ∧ DataW.trod enc P w base spare held n f2.type ((cs.drop f2.offset).take (P.cellsOf f2.type)) = some y2 ∧
      DataW.trod enc P w base spare held n f3.type ((cs.drop f3.offset).take (P.cellsOf f3.type)) = some y3 ∧ DataW.trod enc P w base spare held n f4.type ((cs.drop f4.offset).take (P.cellsOf f4.type)) = some y4 ∧ DataW.trod enc P w base spare held n f5.type ((cs.drop f5.offset).take (P.cellsOf f5.type)) = some y5 := by
  obtain ⟨xs, n, _, rfl, hl, hlen, hf⟩ := DataW.trod_struct ht h
  match xs, hlen with
  | [y0, y1, y2, y3, y4, y5], _ => exact ⟨y0, y1, y2, y3, y4, y5, n, by simp, hl, by simpa using hf 0 f0 rfl, by simpa using hf 1 f1 rfl, by simpa using hf 2 f2 rfl, by simpa using hf 3 f3 rfl, by simpa using hf 4 f4 rfl, by simpa using hf 5 f5 rfl⟩
theorem len6' {cs : List Value} (h : cs.length = 6) : ∃ u v q r s t, cs = [u, v, q, r, s, t] := by
  match cs, h with
  | [u, v, q, r, s, t], _ => exact ⟨u, v, q, r, s, t, rfl⟩
theorem bounds_u16' {k : Int} (h : (Lit.int .u16 k).wf = true) : 0 ≤ k ∧ k < 65536 := by
  simp only [Lit.wf, Bool.and_eq_true, decide_eq_true_eq] at h
  have e1 : IntKind.u16.min = 0 := rfl
  have e2 : IntKind.u16.max = 65535 := rfl
  omega
theorem openLoss {n : Nat} {cs : List Value} {x : DataW H × List MemPlace} (h : DataW.trod enc Try.prog W base sp held n 51 cs = some x) (hw : ∀ b ∈ x.1.weights Try.prog 51, b ≤ reachBytes) : ∃ c : Sloss, cs = c.cells ∧ c.In W [] := by
  obtain ⟨y0, y1, y2, y3, y4, y5, k, rfl, hl, h0, h1, h2, h3, h4, h5⟩ := trod_struct6' Try.underlying51 h
  have e51 : Try.prog.cellsOf 51 = 6 := by kernel_rfl
  have eU : Try.prog.cellsOf 49 = 1 := by kernel_rfl
  have eB : Try.prog.cellsOf 4 = 1 := by kernel_rfl
  have e36 : Try.prog.cellsOf 36 = 1 := by kernel_rfl
  rw [e51] at hl
  have hw' : ∀ b ∈ DataW.weightsEach Try.prog [49, 36, 4, 4, 49, 36] [y0.1, y1.1, y2.1, y3.1, y4.1, y5.1], b ≤ reachBytes := fun b hb => hw b (by
    rw [DataW.weights]
    simp only [Try.underlying51]
    exact hb)
  simp only [DataW.weightsEach, List.append_nil] at hw'
  obtain ⟨u, v, q, r, s, t, rfl⟩ := len6' hl
  simp only [eU, eB, e36, List.drop_zero, List.take_succ_cons, List.take_zero, List.drop_succ_cons] at h0 h1 h2 h3 h4 h5
  obtain ⟨z0, t0, _, w0⟩ := DataW.trod_int Try.underlying49 h0
  obtain ⟨a1, zs1, c1, e1, o1, o2, o3⟩ := openU8 h1 (fun b hb => hw' b (by simp only [List.mem_append]; exact .inr (.inl hb)))
  obtain ⟨z2, t2, _⟩ := DataW.trod_bool Try.underlying4 h2
  obtain ⟨z3, t3, _⟩ := DataW.trod_bool Try.underlying4 h3
  obtain ⟨z4, t4, _, w4⟩ := DataW.trod_int Try.underlying49 h4
  obtain ⟨a5, zs5, c5, e5, p1, p2, p3⟩ := openU8 h5 (fun b hb => hw' b (by simp only [List.mem_append]; exact .inr (.inr (.inr (.inr (.inr hb))))))
  simp only [List.cons.injEq, and_true] at t0 e1 t2 t3 t4 e5
  have b0 := bounds_u16' w0
  have b4 := bounds_u16' w4
  refine ⟨⟨z0.toNat, a1, c1, zs1, z2, z3, z4.toNat, a5, c5, zs5⟩, ?_, ⟨by simp only; omega, by simp only; omega, o3, p3, o1, p1, o2, p2⟩⟩
  rw [t0, e1, t2, t3, t4, e5]
  simp only [Sloss.cells, Int.toNat_of_nonneg b0.1, Int.toNat_of_nonneg b4.1]
theorem openLosses {n : Nat} {cs : List Value} {x : DataW H × List MemPlace} (h : DataW.trod enc Try.prog W base sp held n 48 cs = some x) (hw : ∀ b ∈ x.1.weights Try.prog 48, b ≤ reachBytes) :
    ∃ (a : Option Addr) (gs : List Sloss) (cp : Nat), cs = [.slice a gs.length cp] ∧ OldSl W [] a gs.length 6 (gs.flatMap Sloss.cells) ∧ gs.length ≤ 140737488355328 ∧ ∀ g ∈ gs, g.In W [] :=
  openSlW Sloss.cells (fun g => g.In W []) 6 48 51 64 (fun _ => rfl) (by decide) Try.underlying48 (by kernel_rfl) (by kernel_rfl) (by decide) (fun n cs x h hw => openLoss h hw) h hw
end
end Iv
end Go.Proofs.Ythcbcdjkfefnlaa
