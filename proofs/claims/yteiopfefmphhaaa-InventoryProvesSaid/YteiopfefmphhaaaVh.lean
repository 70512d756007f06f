import Derived.Test.YteiopfefmphhaaaVg
/- Which wishes are short, in plain Lean. -/
set_option linter.unusedSimpArgs false
set_option linter.unusedVariables false
set_option linter.unnecessarySimpa false
set_option autoImplicit false
set_option linter.unusedVariables false
namespace Go.Proofs.Yteiopfefmphhaaa
open Go.Gv
open Go.RowKit
namespace Iv
/-! matchings as functions: which wishes are short -/
def unm (f : Nat → Int) (n : Nat) : Nat := ((List.range n).filter fun q => decide (f q = -1)).length
theorem unm_succ (f : Nat → Int) (n : Nat) : unm f (n + 1) = unm f n + if f n = -1 then 1 else 0 := by
  unfold unm
  rw [List.range_succ, List.filter_append, List.length_append]
  by_cases h : f n = -1 <;> simp [h]
theorem unm_ext {f g : Nat → Int} : ∀ n, (∀ q, q < n → f q = g q) → unm f n = unm g n
  | 0, _ => rfl
  | n + 1, h => by rw [unm_succ, unm_succ, unm_ext n fun q hq => h q (by omega), h n (by omega)]
def upd (f : Nat → Int) (x : Nat) (v : Int) : Nat → Int := fun q => if q = x then v else f q
theorem upd_same (f : Nat → Int) (x : Nat) (v : Int) : upd f x v x = v := by unfold upd; rw [if_pos rfl]
theorem upd_ne (f : Nat → Int) {x q : Nat} (v : Int) (h : q ≠ x) : upd f x v q = f q := by unfold upd; rw [if_neg h]
theorem unm_upd (f : Nat → Int) (x : Nat) (v : Int) : ∀ n, x < n → unm (upd f x v) n + (if f x = -1 then 1 else 0) = unm f n + if v = -1 then 1 else 0
  | 0, h => by omega
  | n + 1, h => by
    rw [unm_succ, unm_succ]
    by_cases e : x = n
    · subst e
      rw [upd_same, unm_ext (f := upd f x v) (g := f) x (fun q hq => upd_ne f v (show q ≠ x by omega))]
      omega
    · rw [upd_ne f v (show n ≠ x by omega)]
      have := unm_upd f x v n (by omega)
      omega
theorem nodup_sub : ∀ (us vs : List Nat), us.Nodup → (∀ x ∈ us, x ∈ vs) → us.length ≤ vs.length
  | [], _, _, _ => Nat.zero_le _
  | a :: us, vs, hn, h => by
    have ha := h a (by simp)
    rw [List.nodup_cons] at hn
    have h1 := nodup_sub us (vs.erase a) hn.2 (fun x hx => (List.mem_erase_of_ne (fun e => hn.1 (by rw [← e]; exact hx))).2 (h x (by simp [hx])))
    rw [List.length_erase_of_mem ha] at h1
    have : 0 < vs.length := List.length_pos_of_mem ha
    simp only [List.length_cons]; omega
theorem unm_ge {f : Nat → Int} {n : Nat} {us : List Nat} (hn : us.Nodup) (h : ∀ q ∈ us, q < n ∧ f q = -1) : us.length ≤ unm f n :=
  nodup_sub us _ hn fun q hq => List.mem_filter.2 ⟨List.mem_range.2 (h q hq).1, decide_eq_true (h q hq).2⟩
section
variable (l : List Pipe) (w : List Wish)
structure Mtc (f : Nat → Int) : Prop where
  ok : ∀ i, i < w.length → f i = -1 ∨ (0 ≤ f i ∧ f i < l.length ∧ fits (l.getD (f i).toNat default) (w.getD i default) = true)
  inj : ∀ i j, i < w.length → j < w.length → f i = f j → f i = -1 ∨ i = j
structure MaxM (f : Nat → Int) : Prop where
  m : Mtc l w f
  le : ∀ g, Mtc l w g → unm f w.length ≤ unm g w.length
end
section
variable {l : List Pipe} {w : List Wish} {xs : List Int}
theorem mtc_of (h : ∀ q, q < w.length → okAt l w xs q) : Mtc l w (fun q => xs.getD q 0) := by
  refine ⟨fun i hi => ?_, fun i j hi hj e => ?_⟩
  · rcases h i hi with a | a
    · exact .inl a
    · have := bad_iff.1 a; exact .inr ⟨this.1, this.2.1, this.2.2.1⟩
  · by_cases hz : xs.getD i 0 = -1
    · exact .inl hz
    · refine .inr ?_
      rcases Nat.lt_trichotomy i j with a | a | a
      · rcases h j hj with b | b
        · omega
        · exact absurd e ((bad_iff.1 b).2.2.2 i a)
      · exact a
      · rcases h i hi with b | b
        · omega
        · exact absurd e.symm ((bad_iff.1 b).2.2.2 j a)
theorem of_mtc {f : Nat → Int} (h : Mtc l w f) (he : ∀ q, q < w.length → xs.getD q 0 = f q) : ∀ q, q < w.length → okAt l w xs q := fun q hq => by
  unfold okAt
  rw [bad_iff, he q hq]
  rcases h.ok q hq with a | ⟨a, b, c⟩
  · exact .inl a
  · refine .inr ⟨a, b, c, fun j hj e => ?_⟩
    rw [he j (by omega)] at e
    rcases h.inj q j hq (by omega) e.symm with g | g <;> omega
def asL (f : Nat → Int) (n : Nat) : List Int := (List.range n).map f
theorem asL_len (f : Nat → Int) (n : Nat) : (asL f n).length = n := by simp [asL]
theorem asL_get (f : Nat → Int) {n q : Nat} (h : q < n) : (asL f n).getD q 0 = f q := by simp [asL, h]
theorem met_unm (hxl : xs.length = w.length) : ∀ (q c : Nat) (k : Int), q ≤ w.length → (∀ i, i < q → okAt l w xs i) → metTo l w xs q = some (c, k) → c + unm (fun q => xs.getD q 0) q = q
  | 0, c, k, _, _, h => by cases h; rfl
  | q + 1, c, k, hq, hok, h => by
    rw [metTo_succ] at h
    cases h1 : metTo l w xs q with
    | none => rw [h1] at h; cases h
    | some x =>
      obtain ⟨c1, k1⟩ := x
      have ih := met_unm hxl q c1 k1 (by omega) (fun i hi => hok i (by omega)) h1
      rw [h1] at h
      unfold metOne at h
      simp only at h
      rw [unm_succ]
      rcases hok q (by omega) with hz | hb
      · rw [if_pos hz] at h; cases h; rw [if_pos hz]; omega
      · have hb2 := bad_iff.1 hb
        rw [if_neg (by omega), if_neg (by rw [hb]; decide)] at h
        cases h
        rw [if_neg (by omega)]; omega
end
/-- a matching of least price -/
structure Lst (l : List Pipe) (w : List Wish) (ol : List Nat) : Prop where
  asg : Asg (List.replicate (l.length + w.length) false) (l.length + w.length) w.length ol
  le : ∀ f, Asg (List.replicate (l.length + w.length) false) (l.length + w.length) w.length f → priceK (tableP l w) ol ≤ priceK (tableP l w) f
theorem Opt.lst {l : List Pipe} {w : List Wish} {ol : List Nat} {sum : Pr} (h : Opt l w ol sum) : Lst l w ol := ⟨h.asg, fun f hf => by rw [← h.key]; exact h.le f hf⟩
section
variable {l : List Pipe} {w : List Wish}
theorem lst_at (hd : Dat l w) {ol : List Nat} (h : Lst l w ol) {i : Nat} (hi : i < w.length) : (gn ol i < l.length ∧ fits (l.getD (gn ol i) default) (w.getD i default) = true) ∨ gn ol i = l.length + i := by
  have hnv : tbl (tableP l w) i (gn ol i) ≠ never := fun he => by
    have h1 := h.le ((List.range w.length).map fun r => l.length + r) ⟨by simp, List.Pairwise.map _ (fun a b hab e => hab (by omega)) List.nodup_range, fun c hc => by
      obtain ⟨r, hr, rfl⟩ := List.mem_map.1 hc
      have := List.mem_range.1 hr
      exact ⟨by omega, by simp [show l.length + r < l.length + w.length by omega]⟩⟩
    have h2 : priceK (tableP l w) ((List.range w.length).map fun r => l.length + r) = sumN (fun _ => 1125899906842624) w.length := by
      unfold priceK
      rw [List.length_map, List.length_range]
      refine sumN_ext _ fun r hr => ?_
      have e : gn ((List.range w.length).map fun r => l.length + r) r = l.length + r := by simp [gn, hr]
      rw [e, tbl_dum hr hr]
      unfold dumCol
      rw [if_pos rfl]; rfl
    rw [h2, sumN_const] at h1
    have h3 : key (tbl (tableP l w) i (gn ol i)) ≤ priceK (tableP l w) ol := by
      unfold priceK
      rw [h.asg.len]
      have h4 := sum_all (fun r => if r = i then key (tbl (tableP l w) i (gn ol i)) else 0) w.length [i] (by simp) (by simpa using hi) (fun j _ hn => if_neg (fun e => hn (by rw [e]; simp)))
      have h5 := sumN_le (f := fun r => if r = i then key (tbl (tableP l w) i (gn ol i)) else 0) (g := fun r => key (tbl (tableP l w) r (gn ol r))) w.length fun r _ => by
        split
        · rename_i e; subst e; exact Int.le_refl _
        · obtain ⟨a, b, c, d⟩ := (tableP_ent hd).tbl r (gn ol r)
          unfold key; omega
      rw [h4] at h5
      simpa [sumL] using h5
    rw [he] at h3
    have h6 : key never = 1000 * 1125899906842624 := rfl
    have := hd.wn
    omega
  have hc := h.asg.ok (gn ol i) (List.mem_of_getElem? (gn_mem (by rw [h.asg.len]; exact hi)))
  by_cases hk : gn ol i < l.length
  · rw [tbl_pipe hi hk] at hnv
    unfold pipeCol at hnv
    cases hf : fits (l.getD (gn ol i) default) (w.getD i default) with
    | true => exact .inl ⟨hk, rfl⟩
    | false => rw [hf] at hnv; exact absurd rfl hnv
  · obtain ⟨q, hq⟩ : ∃ q, gn ol i = l.length + q := ⟨gn ol i - l.length, by omega⟩
    rw [hq, tbl_dum hi (by omega)] at hnv
    unfold dumCol at hnv
    by_cases hqi : q = i
    · exact .inr (by omega)
    · rw [if_neg hqi] at hnv; exact absurd rfl hnv
theorem lst_ok (hd : Dat l w) {ol : List Nat} (h : Lst l w ol) {i : Nat} (hi : i < w.length) : okAt l w (resI l ol) i ∧ colI l.length i ((resI l ol).getD i 0) = gn ol i := by
  have hol := h.asg.len
  have hg : ∀ j, j < w.length → (resI l ol).getD j 0 = finB l.length (gn ol j : Int) := fun j hj => resI_at (by omega)
  rcases lst_at hd h hi with ⟨h1, h2⟩ | h1
  · have e : (resI l ol).getD i 0 = (gn ol i : Int) := by rw [hg i hi]; unfold finB; rw [if_neg (by omega)]
    refine ⟨.inr (bad_iff.2 ⟨by omega, by omega, by rw [e, Int.toNat_natCast]; exact h2, fun j hj => ?_⟩), ?_⟩
    · rw [e, hg j (by omega)]
      unfold finB
      split
      · omega
      · intro e2
        have := gn_inj h.asg.nd (j := j) (k := i) (by omega) (by omega) (by omega)
        omega
    · rw [e]; unfold colI; rw [if_neg (by omega)]; simp
  · have e : (resI l ol).getD i 0 = -1 := by rw [hg i hi]; unfold finB; rw [if_pos (by omega)]
    refine ⟨.inl e, ?_⟩
    rw [e]; unfold colI; rw [if_pos rfl, h1]
theorem lst_cols (hd : Dat l w) {ol : List Nat} (h : Lst l w ol) : colsI l.length (resI l ol) = ol := by
  have hol := h.asg.len
  apply List.ext_getElem (by rw [colsI_len, resI_len])
  intro i h1 h2
  have h3 := (lst_ok hd h (i := i) (by omega)).2
  have h4 := colsI_gn (n := l.length) (xs := resI l ol) (i := i) (by rw [resI_len]; omega)
  rw [h3] at h4
  have e1 : gn (colsI l.length (resI l ol)) i = (colsI l.length (resI l ol))[i] := by simp [gn, h1]
  have e2 : gn ol i = ol[i] := by simp [gn, h2]
  rw [← e1, ← e2, h4]
/-- a list of least price meets most wishes -/
theorem lst_max (hd : Dat l w) {ol : List Nat} (h : Lst l w ol) : MaxM l w (fun q => (resI l ol).getD q 0) := by
  have hrl : (resI l ol).length = w.length := by rw [resI_len, h.asg.len]
  have hok : ∀ i, i < w.length → okAt l w (resI l ol) i := fun i hi => (lst_ok hd h hi).1
  refine ⟨mtc_of hok, fun g hg => ?_⟩
  have hok2 := of_mtc (xs := asL g w.length) hg fun q hq => asL_get g hq
  obtain ⟨c, k, h1, h2, h3⟩ := metTo_price hrl w.length (Nat.le_refl _) hok
  obtain ⟨c2, k2, g1, g2, g3⟩ := metTo_price (asL_len g w.length) w.length (Nat.le_refl _) hok2
  obtain ⟨k1, k3, _⟩ := metTo_cost hd w.length c k (Nat.le_refl _) h1
  obtain ⟨k4, k5, _⟩ := metTo_cost hd w.length c2 k2 (Nat.le_refl _) g1
  have e1 : priceK (tableP l w) ol = ((w.length : Int) - c) * 1125899906842624 + k := by
    rw [← lst_cols hd h]
    unfold priceK
    rw [colsI_len, hrl, h3]
  have e2 : priceK (tableP l w) (colsI l.length (asL g w.length)) = ((w.length : Int) - c2) * 1125899906842624 + k2 := by
    unfold priceK
    rw [colsI_len, asL_len, g3]
  have h4 := h.le _ (cols_asg (asL_len g w.length) hok2)
  rw [e1, e2] at h4
  have hw := hd.wn
  have u1 := met_unm hrl w.length c k (Nat.le_refl _) hok h1
  have u2 := met_unm (asL_len g w.length) w.length c2 k2 (Nat.le_refl _) hok2 g1
  rw [unm_ext (f := fun q => (asL g w.length).getD q 0) (g := g) w.length fun q hq => asL_get g hq] at u2
  omega
end
end Iv
end Go.Proofs.Yteiopfefmphhaaa

set_option autoImplicit false
set_option linter.unusedVariables false
namespace Go.Proofs.Yteiopfefmphhaaa
open Go.Gv
open Go.RowKit
namespace Iv
section
variable {l : List Pipe} {w : List Wish} {f : Nat → Int}
/-- what is kept while the wishes that are short are sought -/
structure Rch (l : List Pipe) (w : List Wish) (f : Nat → Int) (k : Nat) (s : Ss) : Prop where
  sk : Sk l.length w.length s
  un : ∀ q, q < w.length → f q = -1 → q ∈ s.1
  mx : ∀ x ∈ s.1, ∃ g, Mtc l w g ∧ unm g w.length = unm f w.length ∧ g x = -1 ∧ (∀ q, q < w.length → ¬ q ∈ s.1 → g q = f q) ∧ ∀ q, q < w.length → g q ≠ -1 → ∃ r, r < w.length ∧ f r = g q
  me : ∀ q ∈ s.1, f q = -1 ∨ ∃ p ∈ s.2, f q = (p : Int)
  pf : ∀ p ∈ s.2, p < l.length ∧ ∃ q ∈ s.1, fits (l.getD p default) (w.getD q default) = true
  cl : ∀ j, j < k → ∀ p, p < l.length → fits (l.getD p default) (w.getD (gn s.1 j) default) = true → p ∈ s.2
  len : s.1.length = unm f w.length + s.2.length
theorem gn_app {us : List Nat} {v j : Nat} (h : j < us.length) : gn (us ++ [v]) j = gn us j := by
  unfold gn
  rw [List.getD_eq_getElem?_getD, List.getD_eq_getElem?_getD, List.getElem?_append_left h]
theorem step_rch {ol : List Nat} (hM : MaxM l w f) (hol : ol.length = w.length) (hcol : ∀ p q : Nat, q < w.length → f q = (p : Int) → colOf ol p = q) {k : Nat} {s : Ss} (h : Rch l w f k s) (hk : k < s.1.length) (hkk : k ≤ s.1.length) {i : Nat} (hi : i < l.length) :
    Rch l w f k (stepS l ol (w.getD (gn s.1 k) default) s i) ∧ (∀ j, j < s.1.length → gn (stepS l ol (w.getD (gn s.1 k) default) s i).1 j = gn s.1 j) ∧ s.1.length ≤ (stepS l ol (w.getD (gn s.1 k) default) s i).1.length ∧ (∀ p ∈ s.2, p ∈ (stepS l ol (w.getD (gn s.1 k) default) s i).2) ∧ (fits (l.getD i default) (w.getD (gn s.1 k) default) = true → i ∈ (stepS l ol (w.getD (gn s.1 k) default) s i).2) := by
  have hxm : gn s.1 k ∈ s.1 := List.mem_of_getElem? (gn_mem hk)
  generalize hx : gn s.1 k = x at hxm ⊢
  have hxw := h.sk.lt1 x hxm
  unfold stepS
  split
  · rename_i hs
    refine ⟨h, fun j hj => rfl, Nat.le_refl _, fun p hp => hp, fun hf => ?_⟩
    rw [hf] at hs
    simpa using hs
  · rename_i hs
    simp only [Bool.or_eq_true, Bool.not_eq_true', decide_eq_true_eq, not_or, Bool.not_eq_false] at hs
    obtain ⟨hf, hin⟩ := hs
    obtain ⟨g, g1, g2, g3, g4, g5⟩ := h.mx x hxm
    -- the pipe has an owner
    obtain ⟨o, ho1, ho2⟩ : ∃ o, o < w.length ∧ f o = (i : Int) := by
      apply Classical.byContradiction
      intro hno
      have hfree : ∀ q, q < w.length → g q ≠ (i : Int) := fun q hq e => by
        obtain ⟨r, r1, r2⟩ := g5 q hq (by rw [e]; omega)
        exact hno ⟨r, r1, by rw [r2, e]⟩
      have hnew : Mtc l w (upd g x (i : Int)) := by
        refine ⟨fun q hq => ?_, fun a b ha hb e => ?_⟩
        · by_cases e : q = x
          · subst e; rw [upd_same]; exact .inr ⟨by omega, by omega, by rw [Int.toNat_natCast]; exact hf⟩
          · rw [upd_ne g _ e]; exact g1.ok q hq
        · by_cases ea : a = x
          · subst ea
            by_cases eb : b = a
            · exact .inr eb.symm
            · rw [upd_same, upd_ne g _ eb] at e; exact absurd e.symm (hfree b hb)
          · by_cases eb : b = x
            · subst eb; rw [upd_same, upd_ne g _ ea] at e; exact absurd e (hfree a ha)
            · rw [upd_ne g _ ea, upd_ne g _ eb] at e; rw [upd_ne g _ ea]; exact g1.inj a b ha hb e
      have h1 := hM.le _ hnew
      have h2 := unm_upd g x (i : Int) w.length hxw
      rw [if_pos g3, if_neg (by omega)] at h2
      omega
    have hco := hcol i o ho1 ho2
    have hon : ¬ o ∈ s.1 := fun hm => by
      rcases h.me o hm with e | ⟨p, hp, e⟩
      · omega
      · have : p = i := by omega
        subst this; exact hin hp
    rw [hco, if_neg hon]
    have hgo : g o = (i : Int) := by rw [g4 o ho1 hon]; exact ho2
    have hox : o ≠ x := fun e => hon (by rw [e]; exact hxm)
    refine ⟨⟨?_, fun q a b => List.mem_append.2 (.inl (h.un q a b)), fun y hy => ?_, fun q hq => ?_, fun p hp => ?_, fun j hj p hp hfp => ?_, ?_⟩, fun j hj => gn_app hj, by simp, fun p hp => List.mem_append.2 (.inl hp), fun _ => by simp⟩
    · exact (h.sk.add ho1 hon).fit hi hin
    · rcases List.mem_append.1 hy with hy | hy
      · obtain ⟨g', a, b, c, d, e⟩ := h.mx y hy
        exact ⟨g', a, b, c, fun q hq hn => d q hq fun hm => hn (List.mem_append.2 (.inl hm)), e⟩
      · obtain rfl := List.mem_singleton.1 hy
        refine ⟨upd (upd g x (i : Int)) y (-1), ?_, ?_, upd_same _ _ _, fun q hq hn => ?_, fun q hq hn => ?_⟩
        · refine ⟨fun q hq => ?_, fun a b ha hb e => ?_⟩
          · by_cases e : q = y
            · subst e; exact .inl (upd_same _ _ _)
            · rw [upd_ne _ _ e]
              by_cases e2 : q = x
              · subst e2; rw [upd_same]; exact .inr ⟨by omega, by omega, by rw [Int.toNat_natCast]; exact hf⟩
              · rw [upd_ne g _ e2]; exact g1.ok q hq
          · by_cases ea : a = y
            · subst ea; exact .inl (upd_same _ _ _)
            · by_cases eb : b = y
              · subst eb; rw [upd_same] at e; exact .inl e
              · rw [upd_ne _ _ ea, upd_ne _ _ eb] at e
                rw [upd_ne _ _ ea]
                by_cases ea2 : a = x
                · by_cases eb2 : b = x
                  · exact .inr (by omega)
                  · rw [ea2, upd_same, upd_ne g _ eb2] at e
                    rcases g1.inj b y hb ho1 (by rw [← e, hgo]) with c | c
                    · omega
                    · exact absurd c eb
                · by_cases eb2 : b = x
                  · rw [eb2, upd_same, upd_ne g _ ea2] at e
                    rcases g1.inj a y ha ho1 (by rw [e, hgo]) with c | c
                    · omega
                    · exact absurd c ea
                  · rw [upd_ne g _ ea2, upd_ne g _ eb2] at e
                    rw [upd_ne g _ ea2]
                    exact g1.inj a b ha hb e
        · have h1 := unm_upd g x (i : Int) w.length hxw
          rw [if_pos g3, if_neg (by omega)] at h1
          have h2 := unm_upd (upd g x (i : Int)) y (-1) w.length ho1
          rw [upd_ne g _ hox, if_neg (by omega), if_pos rfl] at h2
          omega
        · rw [List.mem_append, List.mem_singleton, not_or] at hn
          rw [upd_ne _ _ hn.2, upd_ne g _ (fun e => hn.1 (by rw [e]; exact hxm))]
          exact g4 q hq hn.1
        · by_cases e : q = y
          · subst e; rw [upd_same] at hn; exact absurd rfl hn
          · rw [upd_ne _ _ e] at hn ⊢
            by_cases e2 : q = x
            · subst e2; rw [upd_same]; exact ⟨y, ho1, ho2⟩
            · rw [upd_ne g _ e2] at hn ⊢; exact g5 q hq hn
    · rcases List.mem_append.1 hq with hq | hq
      · rcases h.me q hq with e | ⟨p, hp, e⟩
        · exact .inl e
        · exact .inr ⟨p, List.mem_append.2 (.inl hp), e⟩
      · obtain rfl := List.mem_singleton.1 hq
        exact .inr ⟨i, by simp, ho2⟩
    · rcases List.mem_append.1 hp with hp | hp
      · obtain ⟨a, q, b, c⟩ := h.pf p hp
        exact ⟨a, q, List.mem_append.2 (.inl b), c⟩
      · obtain rfl := List.mem_singleton.1 hp
        exact ⟨hi, x, List.mem_append.2 (.inl hxm), hf⟩
    · rw [gn_app (show j < s.1.length by omega)] at hfp
      exact List.mem_append.2 (.inl (h.cl j hj p hp hfp))
    · simp only [List.length_append, List.length_singleton]
      have := h.len
      omega
theorem pass_rch {ol : List Nat} (hM : MaxM l w f) (hol : ol.length = w.length) (hcol : ∀ p q : Nat, q < w.length → f q = (p : Int) → colOf ol p = q) {k : Nat} {s : Ss} (h : Rch l w f k s) (hk : k < s.1.length) : ∀ q, q ≤ l.length →
    Rch l w f k (passTo l ol (w.getD (gn s.1 k) default) s q) ∧ (∀ j, j < s.1.length → gn (passTo l ol (w.getD (gn s.1 k) default) s q).1 j = gn s.1 j) ∧ s.1.length ≤ (passTo l ol (w.getD (gn s.1 k) default) s q).1.length ∧ ∀ p, p < q → fits (l.getD p default) (w.getD (gn s.1 k) default) = true → p ∈ (passTo l ol (w.getD (gn s.1 k) default) s q).2
  | 0, _ => ⟨h, fun j _ => rfl, Nat.le_refl _, fun p hp => by omega⟩
  | q + 1, hq => by
    obtain ⟨a, b, c, d⟩ := pass_rch hM hol hcol h hk q (by omega)
    rw [passTo_succ]
    have hg : gn (passTo l ol (w.getD (gn s.1 k) default) s q).1 k = gn s.1 k := b k hk
    have h1 := step_rch hM hol hcol a (by omega) (by omega) (i := q) (by omega)
    rw [hg] at h1
    obtain ⟨e1, e2, e3, e4, e5⟩ := h1
    refine ⟨e1, fun j hj => by rw [e2 j (by omega), b j hj], by omega, fun p hp hf => ?_⟩
    by_cases e : p = q
    · subst e; exact e5 hf
    · exact e4 p (d p (by omega) hf)
theorem go_rch {ol : List Nat} (hM : MaxM l w f) (hol : ol.length = w.length) (hcol : ∀ p q : Nat, q < w.length → f q = (p : Int) → colOf ol p = q) : ∀ (n k : Nat) (s r : Ss), Rch l w f k s → k ≤ s.1.length → shortGo l ol w n k s = some r → Rch l w f r.1.length r
  | 0, k, s, r, h, hk, hr => by
    rw [shortGo] at hr
    split at hr
    · cases hr
    · cases hr; rw [show s.1.length = k by omega]; exact h
  | n + 1, k, s, r, h, hk, hr => by
    rw [shortGo] at hr
    split at hr
    · rename_i hk2
      obtain ⟨a, b, c, d⟩ := pass_rch hM hol hcol h hk2 l.length (Nat.le_refl _)
      refine go_rch hM hol hcol n (k + 1) _ r ⟨a.sk, a.un, a.mx, a.me, a.pf, fun j hj p hp hf => ?_, a.len⟩ (by omega) hr
      by_cases e : j = k
      · subst e; rw [b j hk2] at hf; exact d p hp hf
      · exact a.cl j (by omega) p hp hf
    · cases hr; rw [show s.1.length = k by omega]; exact h
theorem colOf_is {ol : List Nat} (hnd : ol.Nodup) {q : Nat} (hq : q < ol.length) : colOf ol (gn ol q) = q := by
  unfold colOf
  cases h : (List.range ol.length).find? fun j => decide (gn ol q = gn ol j) with
  | none =>
    rw [List.find?_eq_none] at h
    exact absurd (by simp) (h q (List.mem_range.2 hq))
  | some j =>
    have h1 := List.find?_some h
    have h2 := List.mem_range.1 (List.mem_of_find?_eq_some h)
    simp only [decide_eq_true_eq] at h1
    exact (gn_inj hnd hq h2 h1).symm
/-- what Short finds -/
theorem short_rch (hd : Dat l w) {ol : List Nat} (hL : Lst l w ol) {r : Ss} (hr : shortGo l ol w (w.length + 1) 0 (unmetTo l.length ol w.length, []) = some r) : Rch l w (fun q => (resI l ol).getD q 0) r.1.length r := by
  have hol := hL.asg.len
  have hrl : (resI l ol).length = w.length := by rw [resI_len, hol]
  have hat : ∀ q, q < w.length → (resI l ol).getD q 0 = finB l.length (gn ol q : Int) := fun q hq => resI_at (by omega)
  have hun : ∀ q, q < w.length → ((resI l ol).getD q 0 = -1 ↔ l.length ≤ gn ol q) := fun q hq => by
    rw [hat q hq]; unfold finB
    split <;> omega
  have hmem : ∀ q, q ∈ unmetTo l.length ol w.length ↔ q < w.length ∧ (resI l ol).getD q 0 = -1 := fun q => by
    unfold unmetTo
    rw [List.mem_filter, List.mem_range, decide_eq_true_eq]
    exact ⟨fun ⟨a, b⟩ => ⟨a, (hun q a).2 b⟩, fun ⟨a, b⟩ => ⟨a, (hun q a).1 b⟩⟩
  have hM := lst_max hd hL
  refine go_rch (ol := ol) hM hol (fun p q hq e => ?_) (w.length + 1) 0 _ r ⟨unmet_sk hol, fun q a b => (hmem q).2 ⟨a, b⟩, fun x hx => ⟨_, hM.m, rfl, ((hmem x).1 hx).2, fun q _ _ => rfl, fun q hq _ => ⟨q, hq, rfl⟩⟩, fun q hq => .inl ((hmem q).1 hq).2, fun p hp => by simp at hp, fun j hj => by omega, ?_⟩ (Nat.zero_le _) hr
  · rw [hat q hq] at e
    unfold finB at e
    split at e
    · omega
    · have : p = gn ol q := by omega
      rw [this]
      exact colOf_is hL.asg.nd (by omega)
  · unfold unm unmetTo
    simp only [List.length_nil, Nat.add_zero]
    congr 1
    refine List.filter_congr fun q hq => decide_eq_decide.2 ?_
    exact (hun q (List.mem_range.1 hq)).symm
end
end Iv
end Go.Proofs.Yteiopfefmphhaaa

set_option autoImplicit false
set_option linter.unusedVariables false
namespace Go.Proofs.Yteiopfefmphhaaa
open Go.Gv
open Go.RowKit
namespace Iv
theorem srt_eq {xs : List Nat} {n : Nat} (hn : xs.Nodup) (h : ∀ x ∈ xs, x < n) : srt xs = (List.range n).filter fun q => decide (q ∈ xs) := by
  have h1 : List.Pairwise (fun a b => a ≤ b) (srt xs) := by
    have := List.pairwise_mergeSort (le := fun x y : Nat => decide (x ≤ y)) (fun a b c h1 h2 => by simp only [decide_eq_true_eq] at *; omega) (fun a b => by simp only [Bool.or_eq_true, decide_eq_true_eq]; omega) xs
    refine List.Pairwise.imp ?_ this
    intro a b hab
    simpa using hab
  have h2 : List.Pairwise (fun a b => a ≤ b) ((List.range n).filter fun q => decide (q ∈ xs)) := by
    refine List.Pairwise.filter _ ?_
    exact List.Pairwise.imp (fun {a b} hab => Nat.le_of_lt hab) List.pairwise_lt_range
  have hp : List.Perm (srt xs) ((List.range n).filter fun q => decide (q ∈ xs)) := by
    refine (List.mergeSort_perm _ _).trans ?_
    refine (List.perm_ext_iff_of_nodup hn (List.Pairwise.filter _ List.nodup_range)).2 fun a => ?_
    rw [List.mem_filter, List.mem_range, decide_eq_true_eq]
    exact ⟨fun ha => ⟨h a ha, ha⟩, fun ha => ha.2⟩
  exact hp.eq_of_pairwise (le := fun a b => a ≤ b) (fun a b _ _ h3 h4 => Nat.le_antisymm h3 h4) h1 h2
section
variable {l : List Pipe} {w : List Wish} {f : Nat → Int}
/-- no matching that meets most leaves another wish unmet -/
theorem rch_konig {r : Ss} (h : Rch l w f r.1.length r) {g : Nat → Int} (hg : Mtc l w g) (he : unm g w.length ≤ unm f w.length) {i : Nat} (hi : i < w.length) (hz : g i = -1) : i ∈ r.1 := by
  apply Classical.byContradiction
  intro hn
  -- the short wishes that g meets have pipes of r.2
  have h1 : ((r.1.filter fun q => !decide (g q = -1)).map fun q => (g q).toNat).length ≤ r.2.length := by
    refine nodup_sub _ _ ?_ fun p hp => ?_
    · rw [List.Nodup, List.pairwise_map]
      have hnd : (r.1.filter fun q => !decide (g q = -1)).Nodup := List.Pairwise.filter _ h.sk.nd1
      refine List.Pairwise.imp_of_mem ?_ hnd
      intro a b ha hb hab e
      simp only [List.mem_filter, Bool.not_eq_true', decide_eq_false_iff_not] at ha hb
      have la := h.sk.lt1 a ha.1
      have lb := h.sk.lt1 b hb.1
      rcases hg.ok a la with x | ⟨x, _⟩
      · exact ha.2 x
      · rcases hg.ok b lb with y | ⟨y, _⟩
        · exact hb.2 y
        · rcases hg.inj a b la lb (by omega) with z | z
          · exact ha.2 z
          · exact hab z
    · obtain ⟨q, hq, rfl⟩ := List.mem_map.1 hp
      simp only [List.mem_filter, Bool.not_eq_true', decide_eq_false_iff_not] at hq
      obtain ⟨j, hjq⟩ := List.getElem?_of_mem hq.1
      have hj := (List.getElem?_eq_some_iff.1 hjq).1
      rcases hg.ok q (h.sk.lt1 q hq.1) with x | ⟨x, y, z⟩
      · exact absurd x hq.2
      · exact h.cl j hj _ (by omega) (by rw [show gn r.1 j = q by rw [gn, List.getD_eq_getElem?_getD, hjq]; rfl]; exact z)
  have h2 : (i :: r.1.filter fun q => decide (g q = -1)).length ≤ unm g w.length := by
    refine unm_ge ?_ fun q hq => ?_
    · rw [List.nodup_cons]
      exact ⟨fun hm => hn (List.mem_filter.1 hm).1, List.Pairwise.filter _ h.sk.nd1⟩
    · rcases List.mem_cons.1 hq with rfl | hq
      · exact ⟨hi, hz⟩
      · have := List.mem_filter.1 hq
        exact ⟨h.sk.lt1 q this.1, of_decide_eq_true this.2⟩
  have h3 : ∀ us : List Nat, (us.filter fun q => decide (g q = -1)).length + (us.filter fun q => !decide (g q = -1)).length = us.length := fun us => by
    induction us with
    | nil => rfl
    | cons a us ih => by_cases e : g a = -1 <;> simp [List.filter_cons, e] <;> omega
  have h4 := h3 r.1
  have h5 := h.len
  simp only [List.length_map, List.length_cons] at h1 h2
  omega
def others (w : List Wish) (i : Nat) : List Wish := w.take i ++ w.drop (i + 1)
theorem others_len {i : Nat} (hi : i < w.length) : (others w i).length = w.length - 1 := by unfold others; simp; omega
theorem others_get {i : Nat} (hi : i < w.length) (q : Nat) : (others w i).getD q default = if q < i then w.getD q default else w.getD (q + 1) default := by
  unfold others
  rw [List.getD_eq_getElem?_getD]
  split
  · rename_i h
    rw [List.getElem?_append_left (by simp; omega), List.getElem?_take, if_pos h, ← List.getD_eq_getElem?_getD]
  · rename_i h
    rw [List.getElem?_append_right (by simp; omega), List.getElem?_drop, List.length_take, show i + 1 + (q - min i w.length) = q + 1 by omega, ← List.getD_eq_getElem?_getD]
theorem others_dat (hd : Dat l w) (i : Nat) (hi : i < w.length) : Dat l (others w i) := by
  have h1 := others_len hi
  have h2 := hd.wn
  refine ⟨hd.ln, by omega, hd.p, fun x hx => ?_⟩
  rcases List.mem_append.1 hx with h | h
  · exact hd.w x (List.mem_of_mem_take h)
  · exact hd.w x (List.mem_of_mem_drop h)
def insF (g : Nat → Int) (i : Nat) : Nat → Int := fun q => if q < i then g q else if q = i then -1 else g (q - 1)
def remF (g : Nat → Int) (i : Nat) : Nat → Int := fun q => if q < i then g q else g (q + 1)
theorem ins_rem {g : Nat → Int} {i : Nat} (h : g i = -1) (q : Nat) : insF (remF g i) i q = g q := by
  unfold insF remF
  by_cases h1 : q < i
  · rw [if_pos h1, if_pos h1]
  · rw [if_neg h1]
    by_cases h2 : q = i
    · rw [if_pos h2, h2, h]
    · rw [if_neg h2, if_neg (by omega), show q - 1 + 1 = q by omega]
theorem unm_ins (g : Nat → Int) (i : Nat) : ∀ n, i < n → unm (insF g i) n = unm g (n - 1) + 1
  | 0, h => by omega
  | n + 1, h => by
    rw [unm_succ, Nat.add_sub_cancel]
    by_cases e : i = n
    · subst e
      have h1 : insF g i i = -1 := by unfold insF; rw [if_neg (by omega), if_pos rfl]
      rw [if_pos h1, unm_ext (f := insF g i) (g := g) i (fun q hq => by unfold insF; rw [if_pos hq])]
    · have h1 : insF g i n = g (n - 1) := by unfold insF; rw [if_neg (by omega), if_neg (by omega)]
      rw [h1, unm_ins g i n (by omega)]
      obtain ⟨k, rfl⟩ : ∃ k, n = k + 1 := ⟨n - 1, by omega⟩
      rw [unm_succ, Nat.add_sub_cancel]
      omega
theorem ins_mtc {g : Nat → Int} {i : Nat} (hi : i < w.length) (h : Mtc l (others w i) g) : Mtc l w (insF g i) := by
  have hl := others_len hi
  have hok : ∀ q, q < w.length → q ≠ i → ∃ p, p < w.length - 1 ∧ insF g i q = g p ∧ (others w i).getD p default = w.getD q default ∧ q = (if p < i then p else p + 1) := fun q hq hne => by
    by_cases h1 : q < i
    · exact ⟨q, by omega, by unfold insF; rw [if_pos h1], by rw [others_get hi, if_pos h1], by rw [if_pos h1]⟩
    · exact ⟨q - 1, by omega, by unfold insF; rw [if_neg h1, if_neg hne], by rw [others_get hi, if_neg (by omega), show q - 1 + 1 = q by omega], by rw [if_neg (by omega)]; omega⟩
  have hii : insF g i i = -1 := by unfold insF; rw [if_neg (by omega), if_pos rfl]
  refine ⟨fun q hq => ?_, fun a b ha hb e => ?_⟩
  · by_cases e : q = i
    · subst e; exact .inl hii
    · obtain ⟨p, p1, p2, p3, _⟩ := hok q hq e
      rw [p2, ← p3]
      exact h.ok p (by omega)
  · by_cases ea : a = i
    · subst ea; exact .inl hii
    · by_cases eb : b = i
      · subst eb; exact .inl (by rw [e, hii])
      · obtain ⟨p, p1, p2, _, p4⟩ := hok a ha ea
        obtain ⟨q, q1, q2, _, q4⟩ := hok b hb eb
        rw [p2, q2] at e
        rw [p2]
        rcases h.inj p q (by omega) (by omega) e with c | c
        · exact .inl c
        · exact .inr (by rw [p4, q4, c])
theorem rem_mtc {g : Nat → Int} {i : Nat} (hi : i < w.length) (h : Mtc l w g) : Mtc l (others w i) (remF g i) := by
  have hl := others_len hi
  have hok : ∀ q, ∃ p, p = (if q < i then q else q + 1) ∧ remF g i q = g p ∧ (others w i).getD q default = w.getD p default := fun q => by
    by_cases h1 : q < i
    · exact ⟨q, by rw [if_pos h1], by unfold remF; rw [if_pos h1], by rw [others_get hi, if_pos h1]⟩
    · exact ⟨q + 1, by rw [if_neg h1], by unfold remF; rw [if_neg h1], by rw [others_get hi, if_neg h1]⟩
  refine ⟨fun q hq => ?_, fun a b ha hb e => ?_⟩
  · obtain ⟨p, p1, p2, p3⟩ := hok q
    rw [p2, p3]
    exact h.ok p (by split at p1 <;> omega)
  · obtain ⟨p, p1, p2, _⟩ := hok a
    obtain ⟨q, q1, q2, _⟩ := hok b
    rw [p2, q2] at e
    rw [p2]
    rcases h.inj p q (by split at p1 <;> omega) (by split at q1 <;> omega) e with c | c
    · exact .inl c
    · exact .inr (by split at p1 <;> split at q1 <;> omega)
/-- the search finds the most that can be met -/
theorem src_met (l : List Pipe) (w : List Wish) : (∃ g, Mtc l w g ∧ (unm g w.length : Int) + (srcW l w w.length 0 0).1 = w.length) ∧ ∀ g, Mtc l w g → (w.length : Int) ≤ unm g w.length + (srcW l w w.length 0 0).1 := by
  constructor
  · obtain ⟨r1, r2, r3, r4⟩ := ref_ok (l := l) (w := w) w.length 0 0 _ rfl
    generalize hR : refW l w w.length 0 0 (srcW l w w.length 0 0) = R at r1 r2 r3 r4
    have hRok : ∀ q, q < w.length → okAt l w R q := fun q hq => of_plan (l := l) r1 w.length 0 0 (by omega) (used_zero R) (by rw [List.drop_zero]; exact r2) q (Nat.zero_le _) hq
    obtain ⟨c, k, n1, n2, _, _⟩ := met_src (l := l) r1 hRok
    rw [r3] at n2
    have := met_unm r1 w.length c k (Nat.le_refl _) hRok n1
    exact ⟨_, mtc_of hRok, by rw [n2]; simp only; omega⟩
  · intro g hg
    have hok := of_mtc (xs := asL g w.length) hg fun q hq => asL_get g hq
    obtain ⟨c, k, n1, n2, _, n4⟩ := met_src (l := l) (asL_len g w.length) hok
    have h1 := met_unm (asL_len g w.length) w.length c k (Nat.le_refl _) hok n1
    rw [unm_ext (f := fun q => (asL g w.length).getD q 0) (g := g) w.length fun q hq => asL_get g hq] at h1
    unfold wle at n4
    simp only at n4
    omega
theorem short_iff {r : Ss} (hM : MaxM l w f) (h : Rch l w f r.1.length r) {i : Nat} (hi : i < w.length) : (srcW l (others w i) (others w i).length 0 0).1 = (srcW l w w.length 0 0).1 ↔ i ∈ r.1 := by
  obtain ⟨⟨g0, a1, a2⟩, a3⟩ := src_met l w
  obtain ⟨⟨g1, b1, b2⟩, b3⟩ := src_met l (others w i)
  have hl := others_len hi
  rw [hl] at b2 b3 ⊢
  have m1 := hM.le _ a1
  have m2 := a3 _ hM.m
  have i1 := ins_mtc hi b1
  have i2 := unm_ins g1 i w.length hi
  have m3 := a3 _ i1
  constructor
  · intro e
    exact rch_konig h i1 (by omega) hi (by unfold insF; rw [if_neg (by omega), if_pos rfl])
  · intro hm
    obtain ⟨g, g1', g2, g3, _, _⟩ := h.mx i hm
    have r1 := rem_mtc hi g1'
    have r2 := unm_ins (remF g i) i w.length hi
    rw [unm_ext (g := g) w.length fun q _ => ins_rem g3 q] at r2
    have m4 := b3 _ r1
    omega
end
section
variable (l : List Pipe) (w : List Wish)
def shortB (i : Nat) : Bool := decide ((srcW l (others w i) (others w i).length 0 0).1 = (srcW l w w.length 0 0).1)
def rUs : List Nat := (List.range w.length).filter (shortB l w)
def rFs (us : List Nat) : List Nat := (List.range l.length).filter fun k => us.any fun q => fits (l.getD k default) (w.getD q default)
end
section
variable {l : List Pipe} {w : List Wish}
/-- all that Short's lists say -/
structure ShOk (l : List Pipe) (w : List Wish) (us fs : List Nat) : Prop where
  hu : us = rUs l w
  hf : fs = rFs l w us
  hlen : ∀ f, MaxM l w f → us.length = unm f w.length + fs.length ∧ ∀ i, i < w.length → f i = -1 → i ∈ us
theorem short_spec (hd : Dat l w) : ∃ us fs, shortP l w = some (us, fs) ∧ ShOk l w us fs := by
  obtain ⟨o0, sum0, h1, h2, h3, h4, h5⟩ := assign_all hd
  have hL : Lst l w o0 := ⟨h2, fun f hf => by rw [← h3]; exact h5 f hf⟩
  obtain ⟨r, h6, _⟩ := short_go (l := l) (w := w) h2.len (w.length + 1) 0 _ (unmet_sk h2.len) (by omega)
  have hM := lst_max hd hL
  have hR := short_rch hd hL h6
  have hus : srt r.1 = rUs l w := by
    rw [srt_eq hR.sk.nd1 hR.sk.lt1]
    unfold rUs shortB
    refine List.filter_congr fun q hq => decide_eq_decide.2 (short_iff hM hR (List.mem_range.1 hq)).symm
  have hmem : ∀ q, q ∈ srt r.1 ↔ q ∈ r.1 := fun q => (List.mergeSort_perm _ _).mem_iff
  refine ⟨srt r.1, srt r.2, ?_, hus, ?_, fun g hg => ⟨?_, fun i hi hz => (hmem i).2 (rch_konig hR hg.m (hg.le _ hM.m) hi hz)⟩⟩
  · unfold shortP
    rw [h1]
    simp only
    rw [if_pos ⟨h2.nd, h2.len⟩, h6]
  · rw [srt_eq hR.sk.nd2 hR.sk.lt2]
    unfold rFs
    refine List.filter_congr fun p hp => ?_
    have hp := List.mem_range.1 hp
    rw [Bool.eq_iff_iff, decide_eq_true_eq, List.any_eq_true]
    constructor
    · intro hm
      obtain ⟨_, q, hq, hf⟩ := hR.pf p hm
      exact ⟨q, (hmem q).2 hq, hf⟩
    · rintro ⟨q, hq, hf⟩
      obtain ⟨j, hj⟩ := List.getElem?_of_mem ((hmem q).1 hq)
      exact hR.cl j (List.getElem?_eq_some_iff.1 hj).1 p hp (by rw [show gn r.1 j = q by rw [gn, List.getD_eq_getElem?_getD, hj]; rfl]; exact hf)
  · rw [srt_len, srt_len]
    have e1 := hg.le _ hM.m
    have e2 := hM.le _ hg.m
    have := hR.len
    omega
theorem more_mtc {l : List Pipe} {w : List Wish} {f : Nat → Int} (p : Pipe) (h : Mtc l w f) : Mtc (l ++ [p]) w f := by
  refine ⟨fun i hi => ?_, h.inj⟩
  rcases h.ok i hi with a | ⟨a, b, c⟩
  · exact .inl a
  · refine .inr ⟨a, by rw [List.length_append]; simp only [List.length_singleton]; omega, ?_⟩
    rw [List.getD_eq_getElem?_getD, List.getElem?_append_left (by omega), ← List.getD_eq_getElem?_getD]
    exact c
end
end Iv
end Go.Proofs.Yteiopfefmphhaaa

set_option autoImplicit false
set_option linter.unusedVariables false
namespace Go.Proofs.Yteiopfefmphhaaa
open Go.Gv
open Go.RowKit
namespace Iv
def rshortF (l : List Pipe) (w : List Wish) : List Nat × List Nat := if checkP l w = 0 then (rUs l w, rFs l w (rUs l w)) else ([], [])
theorem short_same (l : List Pipe) (w : List Wish) : shortF l w = some (rshortF l w) := by
  unfold shortF rshortF
  by_cases h : checkP l w = 0
  · obtain ⟨us, fs, h1, h2⟩ := short_spec (checkP_ok h)
    rw [if_pos h, if_pos h, h1, h2.hf, h2.hu]
  · rw [if_neg h, if_neg h]
theorem filt_succ (p : Nat → Bool) (n : Nat) : (List.range (n + 1)).filter p = if p n then (List.range n).filter p ++ [n] else (List.range n).filter p := by
  rw [List.range_succ, List.filter_append]
  by_cases h : p n = true
  · rw [if_pos h]; simp [h]
  · rw [if_neg h]; simp [h]
theorem filt_len (p : Nat → Bool) (n : Nat) : ((List.range n).filter p).length ≤ n := Nat.le_trans (List.length_filter_le _ _) (by simp)
theorem wish_one (w : List Wish) : ∀ u ∈ w.flatMap Wish.cells, u.oneCell' = true := fun u hu => by
  obtain ⟨x, _, hx⟩ := List.mem_flatMap.1 hu
  simp only [Wish.cells, List.mem_cons, List.not_mem_nil, or_false] at hx
  rcases hx with rfl | rfl | rfl | rfl | rfl <;> rfl
theorem pipe_one (w : List Pipe) : ∀ u ∈ w.flatMap Pipe.cells, u.oneCell' = true := fun u hu => by
  obtain ⟨x, _, hx⟩ := List.mem_flatMap.1 hu
  simp only [Pipe.cells, List.mem_cons, List.not_mem_nil, or_false] at hx
  rcases hx with rfl | rfl | rfl <;> rfl
theorem flat_take_all {α : Type} (f : α → List Value) (m : Nat) (hf : ∀ x, (f x).length = m) : ∀ (zs : List α) (k : Nat), (zs.flatMap f).take (k * m) = (zs.take k).flatMap f
  | [], k => by simp
  | z :: zs, 0 => by simp
  | z :: zs, k + 1 => by
    rw [List.flatMap_cons, List.take_succ_cons, List.flatMap_cons, ← flat_take_all f m hf zs k]
    have h2 : (k + 1) * m = (f z).length + k * m := by rw [hf, Nat.add_mul, Nat.one_mul, Nat.add_comm]
    rw [h2, List.take_append]
    simp [List.take_of_length_le]
theorem others_cells (w : List Wish) (i : Nat) : [] ++ (w.flatMap Wish.cells).take (i * 5) ++ (w.flatMap Wish.cells).drop ((i + 1) * 5) = (others w i).flatMap Wish.cells := by
  rw [flat_take_all Wish.cells 5 (fun _ => rfl), flat_drop_all Wish.cells 5 (fun _ => rfl), others, List.flatMap_append, List.nil_append]
end Iv
end Go.Proofs.Yteiopfefmphhaaa
