import Derived.Test.YtafmcflggikbfaaW01
import Derived.Test.YtafmcflggikbfaaW00
import Derived.Test.YtafmcflggikbfaaProg
import Derived.Test.YtafmcflggikbfaaRows
/- A part of the proof: walks of the program. -/
set_option autoImplicit false
set_option linter.unusedSimpArgs false
set_option linter.unusedVariables false
set_option linter.unnecessarySimpa false
namespace Go.Wk
open Go.Gv
/-! # Jobs that wait for each other: an order, or a circle -/
/-- what an order of jobs must be: none twice, each behind those that it waits for, none left that could follow -/
structure Ord (n : Nat) (pre : Nat → List Nat) (out : List Nat) : Prop where
  nodup : out.Nodup
  lt : ∀ i ∈ out, i < n
  topo : ∀ k i, out[k]? = some i → ∀ p ∈ pre i, p ∈ out.take k
  closed : ∀ i, i < n → (∀ p ∈ pre i, p ∈ out) → i ∈ out
theorem nodup_len {l : List Nat} {m : Nat} (hn : l.Nodup) (h : ∀ x ∈ l, x < m) : l.length ≤ m := by
  have h1 : l.length ≤ (List.range m).length := hn.length_le_of_subset fun x hx => List.mem_range.2 (h x hx)
  simpa using h1
theorem full_of_len {l : List Nat} {m : Nat} (hn : l.Nodup) (h : ∀ x ∈ l, x < m) (hl : l.length = m) : ∀ i, i < m → i ∈ l := fun i hi => by
  apply Classical.byContradiction
  intro hni
  have h1 : (i :: l).Nodup := List.nodup_cons.2 ⟨hni, hn⟩
  have h2 := nodup_len h1 fun x hx => by
    rcases List.mem_cons.1 hx with rfl | hx
    · exact hi
    · exact h x hx
  simp only [List.length_cons] at h2
  omega
theorem len_of_full {l : List Nat} {m : Nat} (hn : l.Nodup) (h : ∀ x ∈ l, x < m) (hf : ∀ i, i < m → i ∈ l) : l.length = m := by
  have h1 := nodup_len hn h
  have h3 : (List.range m).length ≤ l.length := List.nodup_range.length_le_of_subset fun x hx => hf x (List.mem_range.1 hx)
  simp at h3
  omega
/-! ## the rounds of the reference -/
def goneStep (pre : Nat → List Nat) (g : List Bool) (i : Nat) : List Bool := g.set i (g.getD i false || (pre i).all fun p => g.getD p false)
def goneRound (n : Nat) (pre : Nat → List Nat) (g : List Bool) : List Bool := (List.range n).foldl (goneStep pre) g
def goneP (n : Nat) (pre : Nat → List Nat) : Nat → List Bool
  | 0 => List.replicate n false
  | r + 1 => goneRound n pre (goneP n pre r)
section
variable {n : Nat} {pre : Nat → List Nat} {out : List Nat}
theorem goneStep_len (g : List Bool) (i : Nat) : (goneStep pre g i).length = g.length := by unfold goneStep; simp
theorem fold_len : ∀ (l : List Nat) (g : List Bool), (l.foldl (goneStep pre) g).length = g.length
  | [], _ => rfl
  | i :: l, g => by rw [List.foldl_cons, fold_len l, goneStep_len]
theorem goneP_len (r : Nat) : (goneP n pre r).length = n := by
  induction r with
  | zero => simp [goneP]
  | succ r ih => unfold goneP goneRound; rw [fold_len, ih]
theorem getD_set (g : List Bool) (i j : Nat) (b : Bool) (hi : i < g.length) : (g.set i b).getD j false = if i = j then b else g.getD j false := by
  rw [List.getD_eq_getElem?_getD, List.getElem?_set]
  by_cases h : i = j
  · subst h; simp [hi]
  · simp [h]
/-- nothing goes but what an order holds -/
theorem gone_sub (ho : Ord n pre out) : ∀ (l : List Nat) (g : List Bool), g.length = n → (∀ i ∈ l, i < n) → (∀ j, g.getD j false = true → j ∈ out) → ∀ j, (l.foldl (goneStep pre) g).getD j false = true → j ∈ out
  | [], _, _, _, h => h
  | i :: l, g, hl, hlt, h => by
    rw [List.foldl_cons]
    have hi := hlt i List.mem_cons_self
    refine gone_sub ho l _ (by rw [goneStep_len]; exact hl) (fun j hj => hlt j (List.mem_cons_of_mem _ hj)) fun j hj => ?_
    unfold goneStep at hj
    rw [getD_set _ _ _ _ (by omega)] at hj
    split at hj
    · rename_i e
      subst e
      rcases Bool.or_eq_true_iff.1 hj with h1 | h1
      · exact h i h1
      · exact ho.closed i hi fun p hp => h p (List.all_eq_true.1 h1 p hp)
    · exact h j hj
theorem gone_mono : ∀ (l : List Nat) (g : List Bool), (∀ i ∈ l, i < g.length) → ∀ j, g.getD j false = true → (l.foldl (goneStep pre) g).getD j false = true
  | [], _, _, _, h => h
  | i :: l, g, hlt, j, h => by
    rw [List.foldl_cons]
    refine gone_mono l _ (fun k hk => by rw [goneStep_len]; exact hlt k (List.mem_cons_of_mem _ hk)) j ?_
    unfold goneStep
    rw [getD_set _ _ _ _ (hlt i List.mem_cons_self)]
    split
    · rename_i e; subst e; rw [h]; rfl
    · exact h
theorem gone_yes : ∀ (l : List Nat) (g : List Bool), (∀ i ∈ l, i < g.length) → ∀ i ∈ l, (∀ p ∈ pre i, g.getD p false = true) → (l.foldl (goneStep pre) g).getD i false = true
  | [], _, _, _, h, _ => by cases h
  | k :: l, g, hlt, i, hi, h => by
    rw [List.foldl_cons]
    have hk := hlt k List.mem_cons_self
    have hlt2 : ∀ j ∈ l, j < (goneStep pre g k).length := fun j hj => by rw [goneStep_len]; exact hlt j (List.mem_cons_of_mem _ hj)
    have hmono : ∀ j, g.getD j false = true → (goneStep pre g k).getD j false = true := fun j hj => gone_mono [k] g (fun j hj => by rw [List.mem_singleton.1 hj]; exact hk) j hj
    rcases List.mem_cons.1 hi with rfl | hi
    · refine gone_mono l _ hlt2 i ?_
      unfold goneStep
      rw [getD_set _ _ _ _ hk, if_pos rfl, List.all_eq_true.2 h, Bool.or_true]
    · exact gone_yes l _ hlt2 i hi fun p hp => hmono p (h p hp)
theorem gone_out (ho : Ord n pre out) : ∀ r, (∀ j, (goneP n pre r).getD j false = true → j ∈ out) ∧ ∀ j ∈ out.take r, (goneP n pre r).getD j false = true
  | 0 => ⟨fun j hj => by
      unfold goneP at hj
      rw [List.getD_eq_getElem?_getD, List.getElem?_replicate] at hj
      split at hj <;> simp at hj, fun j hj => by simp at hj⟩
  | r + 1 => by
    obtain ⟨h1, h2⟩ := gone_out ho r
    have hl := goneP_len (n := n) (pre := pre) r
    refine ⟨gone_sub ho (List.range n) _ hl (fun i hi => List.mem_range.1 hi) h1, fun j hj => ?_⟩
    have hlt : ∀ i ∈ List.range n, i < (goneP n pre r).length := fun i hi => by rw [hl]; exact List.mem_range.1 hi
    unfold goneP goneRound
    rcases Nat.lt_or_ge r out.length with hr | hr
    · rw [List.take_add_one, List.getElem?_eq_getElem hr] at hj
      rcases List.mem_append.1 hj with hj | hj
      · exact gone_mono _ _ hlt j (h2 j hj)
      · have e : j = out[r] := by simpa using hj
        subst e
        exact gone_yes _ _ hlt _ (List.mem_range.2 (ho.lt _ (List.getElem_mem hr))) fun p hp => h2 p (ho.topo r _ (List.getElem?_eq_getElem hr) p hp)
    · rw [List.take_of_length_le (by omega)] at hj
      exact gone_mono _ _ hlt j (h2 j (by rw [List.take_of_length_le hr]; exact hj))
/-- a circle for the reference: some job never goes -/
def circleP (n : Nat) (pre : Nat → List Nat) : Bool := (List.range n).any fun i => !(goneP n pre n).getD i false
theorem circle_iff (ho : Ord n pre out) : circleP n pre = !decide (out.length = n) := by
  obtain ⟨h1, h2⟩ := gone_out ho n
  have hlen := nodup_len ho.nodup ho.lt
  rw [List.take_of_length_le hlen] at h2
  unfold circleP
  rw [Bool.eq_iff_iff, List.any_eq_true]
  simp only [Bool.not_eq_true', decide_eq_false_iff_not]
  constructor
  · rintro ⟨i, hi, h⟩ hf
    rw [h2 i (full_of_len ho.nodup ho.lt hf i (List.mem_range.1 hi))] at h
    cases h
  · intro h
    apply Classical.byContradiction
    intro hno
    refine h (len_of_full ho.nodup ho.lt fun i hi => ?_)
    apply Classical.byContradiction
    intro hni
    refine hno ⟨i, List.mem_range.2 hi, ?_⟩
    cases hg : (goneP n pre n).getD i false with
    | false => rfl
    | true => exact absurd (h1 i hg) hni
end
end Go.Wk
namespace Go.Wk
open Go.Gv
/-! # The program's way to an order: what waits for nobody goes, and with it what waited for it alone -/
def nxt (n : Nat) (pre : Nat → List Nat) (a : Nat) : List Nat := (List.range n).filter fun i => decide (a ∈ pre i)
theorem nxt_mem {n : Nat} {pre : Nat → List Nat} {a i : Nat} : i ∈ nxt n pre a ↔ i < n ∧ a ∈ pre i := by unfold nxt; simp
theorem nxt_nodup (n : Nat) (pre : Nat → List Nat) (a : Nat) : (nxt n pre a).Nodup := List.nodup_range.filter _
def ctd (n : Nat) (pre : Nat → List Nat) (out : List Nat) (at_ j p i : Nat) : Bool := decide (p ∈ out.take at_) || (decide (out[at_]? = some p) && decide (i ∈ (nxt n pre p).take j))
def cntU (n : Nat) (pre : Nat → List Nat) (out : List Nat) (at_ j i : Nat) : Nat := ((pre i).filter fun p => !ctd n pre out at_ j p i).length
structure Kn (n : Nat) (pre : Nat → List Nat) (at_ j : Nat) (op out : List Nat) : Prop where
  len : op.length = n
  cnt : ∀ i, i < n → op.getD i 0 = cntU n pre out at_ j i
  mem : ∀ i, i < n → (i ∈ out ↔ op.getD i 0 = 0)
  nodup : out.Nodup
  lt : ∀ i ∈ out, i < n
  topo : ∀ k i, out[k]? = some i → ∀ p ∈ pre i, p ∈ out.take k
  at_le : at_ ≤ out.length
section
variable {n : Nat} {pre : Nat → List Nat} {at_ j : Nat} {op out : List Nat}
theorem kn_init (hop : op = (List.range n).map fun i => (pre i).length) (hout : out = (List.range n).filter fun i => decide (pre i = [])) : Kn n pre 0 0 op out := by
  have hop2 : ∀ i, i < n → op.getD i 0 = (pre i).length := fun i hi => by
    rw [hop, List.getD_eq_getElem?_getD, List.getElem?_map, List.getElem?_range hi]; rfl
  have hm : ∀ i, i ∈ out ↔ i < n ∧ pre i = [] := fun i => by rw [hout]; simp
  refine ⟨by rw [hop]; simp, fun i hi => ?_, fun i hi => ?_, by rw [hout]; exact List.nodup_range.filter _, fun i hi => ((hm i).1 hi).1, fun k i hk p hp => ?_, Nat.zero_le _⟩
  · rw [hop2 i hi]
    unfold cntU
    have e : (pre i).filter (fun p => !ctd n pre out 0 0 p i) = pre i := by
      rw [List.filter_eq_self]
      intro p _
      unfold ctd
      simp
    rw [e]
  · rw [hm, hop2 i hi, List.length_eq_zero_iff]
    exact ⟨fun h => h.2, fun h => ⟨hi, h⟩⟩
  · have := ((hm i).1 (List.mem_of_getElem? hk)).2
    rw [this] at hp; cases hp
theorem filter_one {l : List Nat} {f g : Nat → Bool} {a : Nat} (hn : l.Nodup) (ha : a ∈ l) (hf : f a = true) (hg : g a = false) (h : ∀ x, x ≠ a → f x = g x) : (l.filter f).length = (l.filter g).length + 1 := by
  induction l with
  | nil => cases ha
  | cons x l ih =>
    obtain ⟨h1, h2⟩ := List.nodup_cons.1 hn
    by_cases e : x = a
    · subst e
      have e2 : l.filter f = l.filter g := List.filter_congr fun y hy => h y (fun e => h1 (e ▸ hy))
      rw [List.filter_cons, if_pos hf, List.filter_cons, if_neg (by rw [hg]; simp), e2, List.length_cons]
    · have ha2 : a ∈ l := by
        rcases List.mem_cons.1 ha with h3 | h3
        · exact absurd h3.symm e
        · exact h3
      have := ih h2 ha2
      rw [List.filter_cons, List.filter_cons, h x e]
      split
      · rw [List.length_cons, List.length_cons, this]
      · exact this
theorem getD_setN (g : List Nat) (i j b : Nat) (hi : i < g.length) : (g.set i b).getD j 0 = if i = j then b else g.getD j 0 := by
  rw [List.getD_eq_getElem?_getD, List.getElem?_set]
  by_cases h : i = j
  · subst h; simp [hi]
  · simp [h]
theorem not_take {l : List Nat} (hn : l.Nodup) {k a : Nat} (h : l[k]? = some a) : a ∉ l.take k := fun hm => by
  rw [← List.take_append_drop k l] at hn
  exact (List.nodup_append.1 hn).2.2 a hm a (by rw [drop_at h]; exact List.mem_cons_self) rfl
/-- one job less for i to wait for -/
theorem Kn.ctd_step (h : Kn n pre at_ j op out) {a i : Nat} (ha : out[at_]? = some a) (hi : (nxt n pre a)[j]? = some i) : ctd n pre out at_ j a i = false ∧ ctd n pre out at_ (j + 1) a i = true ∧ ∀ p k, (p ≠ a ∨ k ≠ i) → ctd n pre out at_ (j + 1) p k = ctd n pre out at_ j p k := by
  have hna := not_take h.nodup ha
  have hni := not_take (nxt_nodup n pre a) hi
  refine ⟨?_, ?_, fun p k hpk => ?_⟩
  · unfold ctd
    rw [decide_eq_false hna, decide_eq_false hni]; simp
  · unfold ctd
    rw [take_at hi, ha]; simp
  · unfold ctd
    congr 1
    by_cases hp : p = a
    · subst hp
      have hk : k ≠ i := by
        rcases hpk with h1 | h1
        · exact absurd rfl h1
        · exact h1
      congr 1
      rw [take_at hi, decide_eq_decide]
      simp [hk]
    · have : ¬ (out[at_]? = some p) := fun e => hp (by rw [ha] at e; exact (Option.some.inj e).symm)
      rw [decide_eq_false this]; rfl
theorem Kn.cnt_step (h : Kn n pre at_ j op out) (hpn : ∀ i, (pre i).Nodup) {a i : Nat} (ha : out[at_]? = some a) (hi : (nxt n pre a)[j]? = some i) : cntU n pre out at_ j i = cntU n pre out at_ (j + 1) i + 1 ∧ ∀ k, k ≠ i → cntU n pre out at_ (j + 1) k = cntU n pre out at_ j k := by
  obtain ⟨h1, h2, h3⟩ := h.ctd_step ha hi
  have hm := nxt_mem.1 (List.mem_of_getElem? hi)
  refine ⟨?_, fun k hk => ?_⟩
  · unfold cntU
    exact filter_one (a := a) (hpn i) hm.2 (by rw [h1]; rfl) (by rw [h2]; rfl) fun x hx => by rw [h3 x i (.inl hx)]
  · unfold cntU
    congr 1
    exact List.filter_congr fun p _ => by rw [h3 p k (.inr hk)]
theorem ctd_app {x : Nat} (h : at_ < out.length) (p i : Nat) : ctd n pre (out ++ [x]) at_ j p i = ctd n pre out at_ j p i := by
  unfold ctd
  rw [List.take_append_of_le_length (by omega), List.getElem?_append_left h]
theorem cntU_app {x : Nat} (h : at_ < out.length) (i : Nat) : cntU n pre (out ++ [x]) at_ j i = cntU n pre out at_ j i := by
  unfold cntU
  congr 1
  exact List.filter_congr fun p _ => by rw [ctd_app h]
/-- the step: i waits for one less -/
theorem Kn.step (h : Kn n pre at_ j op out) (hpn : ∀ i, (pre i).Nodup) {a i : Nat} (ha : out[at_]? = some a) (hi : (nxt n pre a)[j]? = some i) :
    1 ≤ op.getD i 0 ∧ (op.getD i 0 = 1 → Kn n pre at_ (j + 1) (op.set i 0) (out ++ [i])) ∧ (op.getD i 0 ≠ 1 → Kn n pre at_ (j + 1) (op.set i (op.getD i 0 - 1)) out) := by
  obtain ⟨h1, h2⟩ := h.cnt_step hpn ha hi
  have hm := nxt_mem.1 (List.mem_of_getElem? hi)
  have hc := h.cnt i hm.1
  have hlt := (List.getElem?_eq_some_iff.1 ha).1
  have hil : i < op.length := by rw [h.len]; exact hm.1
  refine ⟨by omega, fun h3 => ?_, fun h3 => ?_⟩
  · have hni : i ∉ out := fun hio => by have := (h.mem i hm.1).1 hio; omega
    have hz : cntU n pre out at_ (j + 1) i = 0 := by omega
    refine ⟨by rw [List.length_set]; exact h.len, fun k hk => ?_, fun k hk => ?_, ?_, fun k hk => ?_, fun k x hk p hp => ?_, by rw [List.length_append]; have := h.at_le; omega⟩
    · rw [getD_setN _ _ _ _ hil, cntU_app hlt]
      split
      · rename_i e; subst e; omega
      · rename_i e; rw [h2 k (fun e2 => e e2.symm)]; exact h.cnt k hk
    · rw [getD_setN _ _ _ _ hil]
      split
      · rename_i e; subst e; simp
      · rename_i e
        rw [← h.mem k hk]
        simp [Ne.symm e]
    · rw [List.nodup_append]
      refine ⟨h.nodup, by simp, fun x hx y hy => ?_⟩
      rw [List.mem_singleton.1 hy]
      exact fun e => hni (e ▸ hx)
    · rcases List.mem_append.1 hk with hk | hk
      · exact h.lt k hk
      · rw [List.mem_singleton.1 hk]; exact hm.1
    · rcases Nat.lt_or_ge k out.length with hkl | hkl
      · rw [List.getElem?_append_left hkl] at hk
        rw [List.take_append_of_le_length (by omega)]
        exact h.topo k x hk p hp
      · have hke : k = out.length := by
          have := (List.getElem?_eq_some_iff.1 hk).1
          rw [List.length_append, List.length_cons, List.length_nil] at this
          omega
        subst hke
        rw [List.getElem?_append_right (Nat.le_refl _), Nat.sub_self] at hk
        have hxi : i = x := by simpa using hk
        subst hxi
        rw [List.take_append_of_le_length (Nat.le_refl _), List.take_length]
        have h4 : ctd n pre out at_ (j + 1) p i = true := by
          cases h5 : ctd n pre out at_ (j + 1) p i with
          | true => rfl
          | false =>
            unfold cntU at hz
            have h6 := List.length_eq_zero_iff.1 hz
            rw [List.filter_eq_nil_iff] at h6
            have := h6 p hp
            rw [h5] at this
            simp at this
        unfold ctd at h4
        simp only [Bool.or_eq_true, Bool.and_eq_true, decide_eq_true_eq] at h4
        rcases h4 with h4 | ⟨h4, _⟩
        · exact List.mem_of_mem_take h4
        · exact List.mem_of_getElem? h4
  · have hni : i ∉ out := fun hio => by have := (h.mem i hm.1).1 hio; omega
    refine ⟨by rw [List.length_set]; exact h.len, fun k hk => ?_, fun k hk => ?_, h.nodup, h.lt, h.topo, h.at_le⟩
    · rw [getD_setN _ _ _ _ hil]
      split
      · rename_i e; subst e; omega
      · rename_i e; rw [h2 k (fun e2 => e e2.symm)]; exact h.cnt k hk
    · rw [getD_setN _ _ _ _ hil]
      split
      · rename_i e
        subst e
        constructor
        · intro h4; exact absurd h4 hni
        · intro h4; omega
      · exact h.mem k hk
theorem Kn.next (h : Kn n pre at_ j op out) {a : Nat} (ha : out[at_]? = some a) (hj : j = (nxt n pre a).length) : Kn n pre (at_ + 1) 0 op out := by
  have hlt := (List.getElem?_eq_some_iff.1 ha).1
  refine ⟨h.len, fun i hi => ?_, h.mem, h.nodup, h.lt, h.topo, by omega⟩
  rw [h.cnt i hi]
  unfold cntU
  congr 1
  apply List.filter_congr
  intro p hp
  congr 1
  unfold ctd
  rw [take_at ha, Bool.eq_iff_iff]
  simp only [List.take_zero, List.not_mem_nil, decide_false, Bool.and_false, Bool.or_false, Bool.or_eq_true, Bool.and_eq_true, decide_eq_true_eq, List.mem_append, List.mem_singleton]
  constructor
  · rintro (h1 | ⟨h1, _⟩)
    · exact .inl h1
    · rw [ha] at h1; exact .inr (Option.some.inj h1).symm
  · rintro (h1 | rfl)
    · exact .inl h1
    · refine .inr ⟨ha, ?_⟩
      rw [hj, List.take_length]
      exact nxt_mem.2 ⟨hi, hp⟩
theorem Kn.done (h : Kn n pre at_ 0 op out) (ha : at_ = out.length) : Ord n pre out := by
  refine ⟨h.nodup, h.lt, h.topo, fun i hi hp => (h.mem i hi).2 ?_⟩
  rw [h.cnt i hi]
  unfold cntU
  rw [List.length_eq_zero_iff, List.filter_eq_nil_iff]
  intro p hpp
  unfold ctd
  rw [ha, List.take_length, decide_eq_true (hp p hpp)]
  simp
end
end Go.Wk
namespace Go.Wk
open Go.Gv
/-! # Jobs; the earliest hours -/
structure Jb where
  name : ByteArray
  bench : Nat
  hours : Nat
  aa : Option Addr
  ac : Nat
  after : List (Nat × Nat)
  deriving Inhabited
def jb (l : List Jb) (i : Nat) : Jb := l.getD i default
def hr (l : List Jb) (i : Nat) : Nat := (jb l i).hours
def preOf (l : List Jb) (i : Nat) : List Nat := (jb l i).after.map (·.1)
/-- jobs of which all is well -/
structure JOk (l : List Jb) : Prop where
  n : l.length ≤ 40
  lags : ∀ x ∈ l, x.after.length ≤ 10
  job : ∀ i, i < l.length → ∀ a ∈ (jb l i).after, a.1 < l.length ∧ a.1 ≠ i ∧ a.2 ≤ 1000
  asc : ∀ i, i < l.length → ((jb l i).after.map (·.1)).Pairwise (· < ·)
  hrs : ∀ i, i < l.length → 1 ≤ hr l i ∧ hr l i ≤ 1000
  ben : ∀ i, i < l.length → (jb l i).bench < 6
theorem jb_none {l : List Jb} {i : Nat} (h : l.length ≤ i) : (jb l i).after = [] := by
  unfold jb
  rw [List.getD_eq_getElem?_getD, List.getElem?_eq_none h]; rfl
def aftS (l : List Jb) (at_ : List Nat) (t : Nat) (a : Nat × Nat) : Nat := max t (at_.getD a.1 0 + hr l a.1 + a.2)
def aft (l : List Jb) (at_ : List Nat) (i : Nat) : Nat := (jb l i).after.foldl (aftS l at_) 0
theorem aftS_le {l : List Jb} {at_ : List Nat} : ∀ (asL : List (Nat × Nat)) (t b : Nat), asL.foldl (aftS l at_) t ≤ b ↔ t ≤ b ∧ ∀ a ∈ asL, at_.getD a.1 0 + hr l a.1 + a.2 ≤ b
  | [], t, b => by simp
  | a :: asL, t, b => by
    rw [List.foldl_cons, aftS_le asL]
    unfold aftS
    simp only [List.mem_cons, forall_eq_or_imp]
    constructor
    · rintro ⟨h1, h2⟩; exact ⟨by omega, by omega, h2⟩
    · rintro ⟨h1, h2, h3⟩; exact ⟨by omega, h3⟩
theorem aft_le {l : List Jb} {at_ : List Nat} {i b : Nat} : aft l at_ i ≤ b ↔ ∀ a ∈ (jb l i).after, at_.getD a.1 0 + hr l a.1 + a.2 ≤ b := by
  unfold aft; rw [aftS_le]; simp
theorem aft_congr {l : List Jb} {at_ at' : List Nat} {i : Nat} (h : ∀ p ∈ preOf l i, at_.getD p 0 = at'.getD p 0) : aft l at_ i = aft l at' i := by
  apply Nat.le_antisymm
  · rw [aft_le]
    intro a ha
    have h1 := aft_le.1 (Nat.le_refl (aft l at' i)) a ha
    rw [h a.1 (List.mem_map_of_mem ha)]; exact h1
  · rw [aft_le]
    intro a ha
    have h1 := aft_le.1 (Nat.le_refl (aft l at_ i)) a ha
    rw [← h a.1 (List.mem_map_of_mem ha)]; exact h1
theorem aft_mono {l : List Jb} {at_ at' : List Nat} {i : Nat} (h : ∀ p ∈ preOf l i, at_.getD p 0 ≤ at'.getD p 0) : aft l at_ i ≤ aft l at' i := by
  rw [aft_le]
  intro a ha
  have h1 := aft_le.1 (Nat.le_refl (aft l at' i)) a ha
  have := h a.1 (List.mem_map_of_mem ha)
  omega
/-- one job is put where it may begin -/
def earlS (l : List Jb) (at_ : List Nat) (i : Nat) : List Nat := at_.set i (aft l at_ i)
def earlK (l : List Jb) (o : List Nat) : List Nat := o.foldl (earlS l) (List.replicate l.length 0)
def earlR (l : List Jb) : Nat → List Nat
  | 0 => List.replicate l.length 0
  | r + 1 => (List.range l.length).foldl (earlS l) (earlR l r)
section
variable {l : List Jb} {o : List Nat}
theorem earlS_len (g : List Nat) (i : Nat) : (earlS l g i).length = g.length := by unfold earlS; simp
theorem earl_fold_len : ∀ (is : List Nat) (g : List Nat), (is.foldl (earlS l) g).length = g.length
  | [], _ => rfl
  | i :: is, g => by rw [List.foldl_cons, earl_fold_len is, earlS_len]
theorem earlK_len (l : List Jb) (o : List Nat) : (earlK l o).length = l.length := by unfold earlK; rw [earl_fold_len]; simp
theorem earlR_len (l : List Jb) (r : Nat) : (earlR l r).length = l.length := by
  induction r with
  | zero => simp [earlR]
  | succ r ih => unfold earlR; rw [earl_fold_len, ih]
theorem earlS_get (g : List Nat) (i j : Nat) (hi : i < g.length) : (earlS l g i).getD j 0 = if i = j then aft l g i else g.getD j 0 := by
  unfold earlS; exact getD_setN _ _ _ _ hi
theorem earl_keep : ∀ (is : List Nat) (g : List Nat) (j : Nat), (∀ i ∈ is, i < g.length) → j ∉ is → (is.foldl (earlS l) g).getD j 0 = g.getD j 0
  | [], _, _, _, _ => rfl
  | i :: is, g, j, hlt, hj => by
    rw [List.foldl_cons, earl_keep is _ j (fun k hk => by rw [earlS_len]; exact hlt k (List.mem_cons_of_mem _ hk)) (fun h => hj (List.mem_cons_of_mem _ h)), earlS_get _ _ _ (hlt i List.mem_cons_self), if_neg (fun e => by subst e; exact hj List.mem_cons_self)]
/-- the state of the program's way behind k jobs -/
def earlT (l : List Jb) (o : List Nat) (k : Nat) : List Nat := (o.take k).foldl (earlS l) (List.replicate l.length 0)
theorem earlT_len (k : Nat) : (earlT l o k).length = l.length := by unfold earlT; rw [earl_fold_len]; simp
theorem earlT_next {k i : Nat} (h : o[k]? = some i) : earlT l o (k + 1) = earlS l (earlT l o k) i := by unfold earlT; rw [take_at h, List.foldl_append]; rfl
theorem earlT_all : earlT l o o.length = earlK l o := by unfold earlT earlK; rw [List.take_length]
theorem earlT_final (ho : Ord l.length (preOf l) o) {k i : Nat} (h : o[k]? = some i) : ∀ m, k < m → m ≤ o.length → (earlT l o m).getD i 0 = aft l (earlT l o k) i
  | 0, hm, _ => absurd hm (Nat.not_lt_zero k)
  | m + 1, hm, hml => by
    obtain ⟨x, hx⟩ : ∃ x, o[m]? = some x := ⟨o[m], List.getElem?_eq_getElem (by omega)⟩
    have hxl : x < (earlT l o m).length := by rw [earlT_len]; exact ho.lt x (List.mem_of_getElem? hx)
    rw [earlT_next hx, earlS_get _ _ _ hxl]
    rcases Nat.lt_or_ge k m with hk | hk
    · have hne : x ≠ i := fun e => by
        subst e
        have := not_take ho.nodup hx
        exact this (List.mem_of_getElem? (i := k) (by rw [List.getElem?_take, if_pos hk]; exact h))
      rw [if_neg hne]
      exact earlT_final ho h m hk (by omega)
    · have : k = m := by omega
      subst this
      rw [h] at hx
      rw [Option.some.inj hx, if_pos rfl]
theorem earlT_zero (ho : Ord l.length (preOf l) o) {k i : Nat} (h : i ∉ o.take k) : (earlT l o k).getD i 0 = 0 := by
  unfold earlT
  rw [earl_keep _ _ _ (fun j hj => by rw [List.length_replicate]; exact ho.lt j (List.mem_of_mem_take hj)) h]
  rw [List.getD_eq_getElem?_getD, List.getElem?_replicate]
  split <;> rfl
/-- the earliest hours of all are a fixed point -/
theorem earl_fix (ho : Ord l.length (preOf l) o) {i : Nat} (hi : i ∈ o) : (earlK l o).getD i 0 = aft l (earlK l o) i := by
  obtain ⟨k, hk⟩ := List.getElem?_of_mem hi
  have hkl := (List.getElem?_eq_some_iff.1 hk).1
  rw [← earlT_all, earlT_final ho hk _ hkl (Nat.le_refl _)]
  apply aft_congr
  intro p hp
  have h1 := ho.topo k i hk p hp
  obtain ⟨m, hm⟩ := List.getElem?_of_mem h1
  rw [List.getElem?_take] at hm
  split at hm
  · rename_i hmk
    rw [earlT_final ho hm k hmk (by omega), earlT_final ho hm _ (by omega) (Nat.le_refl _)]
  · cases hm
theorem earlT_le (ho : Ord l.length (preOf l) o) (k i : Nat) (hk : k ≤ o.length) : (earlT l o k).getD i 0 ≤ (earlK l o).getD i 0 := by
  by_cases hi : i ∈ o.take k
  · obtain ⟨m, hm⟩ := List.getElem?_of_mem hi
    rw [List.getElem?_take] at hm
    split at hm
    · rename_i hmk
      rw [← earlT_all, earlT_final ho hm k hmk hk, earlT_final ho hm _ (by omega) (Nat.le_refl _)]
      exact Nat.le_refl _
    · cases hm
  · rw [earlT_zero ho hi]; exact Nat.zero_le _
/-- the reference's rounds -/
structure Rnd (l : List Jb) (o : List Nat) (r : Nat) (g : List Nat) : Prop where
  len : g.length = l.length
  le : ∀ i, g.getD i 0 ≤ (earlK l o).getD i 0
  eq : ∀ j i, j < r → o[j]? = some i → g.getD i 0 = (earlK l o).getD i 0
theorem Rnd.step (ho : Ord l.length (preOf l) o) (hf : o.length = l.length) {r : Nat} {g : List Nat} (h : Rnd l o r g) {i : Nat} (hi : i < l.length) : Rnd l o r (earlS l g i) := by
  have hio := full_of_len ho.nodup ho.lt hf i hi
  have hfix := earl_fix ho hio
  refine ⟨by rw [earlS_len]; exact h.len, fun j => ?_, fun j x hj hx => ?_⟩
  · rw [earlS_get _ _ _ (by rw [h.len]; exact hi)]
    split
    · rename_i e; subst e
      rw [hfix]
      exact aft_mono fun p _ => h.le p
    · exact h.le j
  · rw [earlS_get _ _ _ (by rw [h.len]; exact hi)]
    split
    · rename_i e; subst e
      rw [hfix]
      apply aft_congr
      intro p hp
      have h1 := ho.topo j i hx p hp
      obtain ⟨m, hm⟩ := List.getElem?_of_mem h1
      rw [List.getElem?_take] at hm
      split at hm
      · exact h.eq m p (by omega) hm
      · cases hm
    · exact h.eq j x hj hx
theorem Rnd.hit (ho : Ord l.length (preOf l) o) (hf : o.length = l.length) {r : Nat} {g : List Nat} (h : Rnd l o r g) {i : Nat} (hi : o[r]? = some i) : Rnd l o (r + 1) (earlS l g i) := by
  have hil := ho.lt i (List.mem_of_getElem? hi)
  have h2 := h.step ho hf hil
  refine ⟨h2.len, h2.le, fun j x hj hx => ?_⟩
  rcases Nat.lt_or_ge j r with hjr | hjr
  · exact h2.eq j x hjr hx
  · have : j = r := by omega
    subst this
    rw [hi] at hx
    rw [← Option.some.inj hx, earlS_get _ _ _ (by rw [h.len]; exact hil), if_pos rfl, earl_fix ho (List.mem_of_getElem? hi)]
    apply aft_congr
    intro p hp
    have h1 := ho.topo j i hi p hp
    obtain ⟨m, hm⟩ := List.getElem?_of_mem h1
    rw [List.getElem?_take] at hm
    split at hm
    · exact h.eq m p (by omega) hm
    · cases hm
theorem Rnd.fold (ho : Ord l.length (preOf l) o) (hf : o.length = l.length) {r : Nat} : ∀ (is : List Nat) (g : List Nat), (∀ i ∈ is, i < l.length) → Rnd l o r g → Rnd l o r (is.foldl (earlS l) g)
  | [], _, _, h => h
  | i :: is, g, hlt, h => Rnd.fold ho hf is _ (fun j hj => hlt j (List.mem_cons_of_mem _ hj)) (h.step ho hf (hlt i List.mem_cons_self))
theorem Rnd.round (ho : Ord l.length (preOf l) o) (hf : o.length = l.length) {r : Nat} {g : List Nat} (h : Rnd l o r g) : Rnd l o (r + 1) ((List.range l.length).foldl (earlS l) g) := by
  rcases Nat.lt_or_ge r o.length with hr | hr
  · have hx : o[r]? = some o[r] := List.getElem?_eq_getElem hr
    have hxl := ho.lt _ (List.mem_of_getElem? hx)
    obtain ⟨A, B, hAB⟩ := List.append_of_mem (List.mem_range.2 hxl)
    have hlt : ∀ i ∈ A ++ o[r] :: B, i < l.length := fun i hi => List.mem_range.1 (by rw [hAB]; exact hi)
    rw [hAB, List.foldl_append, List.foldl_cons]
    exact Rnd.fold ho hf B _ (fun i hi => hlt i (List.mem_append_right _ (List.mem_cons_of_mem _ hi))) ((Rnd.fold ho hf A g (fun i hi => hlt i (List.mem_append_left _ hi)) h).hit ho hf hx)
  · have h2 := Rnd.fold ho hf (List.range l.length) g (fun i hi => List.mem_range.1 hi) h
    refine ⟨h2.len, h2.le, fun j x hj hx => ?_⟩
    have := (List.getElem?_eq_some_iff.1 hx).1
    exact h2.eq j x (by omega) hx
theorem rnd_zero : Rnd l o 0 (earlR l 0) := by
  refine ⟨by simp [earlR], fun i => ?_, fun j x hj => absurd hj (Nat.not_lt_zero j)⟩
  unfold earlR
  rw [List.getD_eq_getElem?_getD, List.getElem?_replicate]
  split <;> exact Nat.zero_le _
theorem rnd_all (ho : Ord l.length (preOf l) o) (hf : o.length = l.length) : ∀ r, Rnd l o r (earlR l r)
  | 0 => rnd_zero
  | r + 1 => (rnd_all ho hf r).round ho hf
/-- the reference finds the same -/
theorem earl_same (ho : Ord l.length (preOf l) o) (hf : o.length = l.length) : earlR l l.length = earlK l o := by
  have h := rnd_all ho hf l.length
  apply List.ext_getElem
  · rw [earlR_len, earlK_len]
  · intro i h1 h2
    have hi : i < l.length := by rw [earlR_len] at h1; exact h1
    obtain ⟨k, hk⟩ := List.getElem?_of_mem (full_of_len ho.nodup ho.lt hf i hi)
    have := h.eq k i (by have := (List.getElem?_eq_some_iff.1 hk).1; omega) hk
    rw [List.getD_eq_getElem?_getD, List.getD_eq_getElem?_getD, List.getElem?_eq_getElem h1, List.getElem?_eq_getElem h2] at this
    exact this
/-- how late they are at most -/
theorem earl_bound (hj : JOk l) (ho : Ord l.length (preOf l) o) : ∀ (k i : Nat), o[k]? = some i → (earlK l o).getD i 0 ≤ 2000 * k := by
  intro k
  induction k using Nat.strongRecOn with
  | _ k ih =>
    intro i hk
    have hi := List.mem_of_getElem? hk
    rw [earl_fix ho hi, aft_le]
    intro a ha
    have hil := ho.lt i hi
    have h1 := ho.topo k i hk a.1 (List.mem_map_of_mem ha)
    obtain ⟨m, hm⟩ := List.getElem?_of_mem h1
    rw [List.getElem?_take] at hm
    split at hm
    · rename_i hmk
      have h2 := ih m hmk a.1 hm
      have h3 := hj.job i hil a ha
      have h4 := (hj.hrs a.1 h3.1).2
      omega
    · cases hm
end
end Go.Wk
namespace Go.Wk
open Go.Gv
/-! # The end of a schedule; the latest hours; critical jobs -/
def endS (l : List Jb) (g : List Nat) (t i : Nat) : Nat := max t (g.getD i 0 + hr l i)
def endF (l : List Jb) (g : List Nat) : Nat := (List.range l.length).foldl (endS l g) 0
section
variable {l : List Jb} {o : List Nat} {t : Nat}
theorem endS_le {g : List Nat} : ∀ (is : List Nat) (t b : Nat), is.foldl (endS l g) t ≤ b ↔ t ≤ b ∧ ∀ i ∈ is, g.getD i 0 + hr l i ≤ b
  | [], t, b => by simp
  | i :: is, t, b => by
    rw [List.foldl_cons, endS_le is]
    unfold endS
    simp only [List.mem_cons, forall_eq_or_imp]
    constructor
    · rintro ⟨h1, h2⟩; exact ⟨by omega, by omega, h2⟩
    · rintro ⟨h1, h2, h3⟩; exact ⟨by omega, h3⟩
theorem endF_le {g : List Nat} {b : Nat} : endF l g ≤ b ↔ ∀ i, i < l.length → g.getD i 0 + hr l i ≤ b := by
  unfold endF
  rw [endS_le]
  simp
theorem le_endF {g : List Nat} {i : Nat} (hi : i < l.length) : g.getD i 0 + hr l i ≤ endF l g := endF_le.1 (Nat.le_refl _) i hi
/-- schedules that are over at some hour (in a shop with benches enough) -/
structure Low (l : List Jb) (t : Nat) (s : List Nat) : Prop where
  len : s.length = l.length
  hi : ∀ i, i < l.length → s.getD i 0 + hr l i ≤ t
  con : ∀ i, i < l.length → ∀ a ∈ (jb l i).after, s.getD a.1 0 + hr l a.1 + a.2 ≤ s.getD i 0
def latP (l : List Jb) (i : Nat) (g : List Nat) (a : Nat × Nat) : List Nat := g.set a.1 (min (g.getD a.1 0) (g.getD i 0 - a.2 - hr l a.1))
def latS (l : List Jb) (g : List Nat) (i : Nat) : List Nat := (jb l i).after.foldl (latP l i) g
def lat0 (l : List Jb) (t : Nat) : List Nat := (List.range l.length).map fun i => t - hr l i
def latK (l : List Jb) (o : List Nat) (t : Nat) : List Nat := o.reverse.foldl (latS l) (lat0 l t)
def latR (l : List Jb) (t : Nat) : Nat → List Nat
  | 0 => lat0 l t
  | r + 1 => (List.range l.length).foldl (latS l) (latR l t r)
theorem latF {i : Nat} : ∀ (asL : List (Nat × Nat)) (g : List Nat), (∀ a ∈ asL, a.1 ≠ i ∧ a.1 < g.length) →
    (asL.foldl (latP l i) g).length = g.length ∧ (∀ j, (asL.foldl (latP l i) g).getD j 0 ≤ g.getD j 0) ∧ (∀ j, j ∉ asL.map (·.1) → (asL.foldl (latP l i) g).getD j 0 = g.getD j 0)
    ∧ (∀ a ∈ asL, (asL.foldl (latP l i) g).getD a.1 0 ≤ g.getD i 0 - a.2 - hr l a.1) ∧ (∀ s j, s ≤ g.getD j 0 → (∀ a ∈ asL, a.1 = j → s ≤ g.getD i 0 - a.2 - hr l j) → s ≤ (asL.foldl (latP l i) g).getD j 0)
  | [], g, _ => ⟨rfl, fun j => Nat.le_refl _, fun j _ => rfl, fun a ha => (by cases ha), fun s j h _ => h⟩
  | b :: asL, g, h => by
    obtain ⟨hb1, hb2⟩ := h b List.mem_cons_self
    have hlen : (latP l i g b).length = g.length := by unfold latP; simp
    obtain ⟨h1, h2, h3, h4, h5⟩ := latF asL (latP l i g b) (fun a ha => by rw [hlen]; exact h a (List.mem_cons_of_mem _ ha))
    have hget : ∀ j, (latP l i g b).getD j 0 = if b.1 = j then min (g.getD b.1 0) (g.getD i 0 - b.2 - hr l b.1) else g.getD j 0 := fun j => by unfold latP; exact getD_setN _ _ _ _ hb2
    have hi : (latP l i g b).getD i 0 = g.getD i 0 := by rw [hget, if_neg hb1]
    have hle : ∀ j, (latP l i g b).getD j 0 ≤ g.getD j 0 := fun j => by
      rw [hget]
      split
      · rename_i e; subst e; exact Nat.min_le_left _ _
      · exact Nat.le_refl _
    rw [List.foldl_cons]
    refine ⟨by rw [h1, hlen], fun j => Nat.le_trans (h2 j) (hle j), fun j hj => ?_, fun a ha => ?_, fun s j hs ha => ?_⟩
    · rw [List.map_cons, List.mem_cons, not_or] at hj
      rw [h3 j hj.2, hget, if_neg (fun e => hj.1 e.symm)]
    · rcases List.mem_cons.1 ha with rfl | ha
      · refine Nat.le_trans (h2 _) ?_
        rw [hget, if_pos rfl]
        exact Nat.min_le_right _ _
      · have := h4 a ha
        rw [hi] at this
        exact this
    · refine h5 s j ?_ fun a ha2 e => by rw [hi]; exact ha a (List.mem_cons_of_mem _ ha2) e
      rw [hget]
      split
      · rename_i e
        subst e
        exact Nat.le_min.2 ⟨hs, ha b List.mem_cons_self rfl⟩
      · exact hs
/-- where the rounds and the program's way stand: the last r of the order are done -/
structure PL (l : List Jb) (o : List Nat) (t r : Nat) (g : List Nat) : Prop where
  len : g.length = l.length
  hi : ∀ i, i < l.length → g.getD i 0 + hr l i ≤ t
  great : ∀ s, Low l t s → ∀ i, s.getD i 0 ≤ g.getD i 0
  con : ∀ k i, o.length ≤ k + r → o[k]? = some i → ∀ a ∈ (jb l i).after, g.getD a.1 0 + hr l a.1 + a.2 ≤ g.getD i 0
theorem noop : ∀ (asL : List (Nat × Nat)) (i : Nat) (g : List Nat), (∀ a ∈ asL, a.1 < g.length ∧ g.getD a.1 0 ≤ g.getD i 0 - a.2 - hr l a.1) → asL.foldl (latP l i) g = g
  | [], _, _, _ => rfl
  | a :: asL, i, g, h => by
    obtain ⟨h1, h2⟩ := h a List.mem_cons_self
    have e : latP l i g a = g := by
      unfold latP
      rw [Nat.min_eq_left h2, List.getD_eq_getElem?_getD, List.getElem?_eq_getElem h1]
      simp
    rw [List.foldl_cons, e]
    exact noop asL i g fun b hb => h b (List.mem_cons_of_mem _ hb)
theorem PL.base (hj : JOk l) (hh : ∀ i, i < l.length → hr l i ≤ t) : PL l o t 0 (lat0 l t) := by
  have hget : ∀ i, i < l.length → (lat0 l t).getD i 0 = t - hr l i := fun i hi => by
    unfold lat0
    rw [List.getD_eq_getElem?_getD, List.getElem?_map, List.getElem?_range hi]; rfl
  refine ⟨by unfold lat0; simp, fun i hi => by rw [hget i hi]; have := hh i hi; omega, fun s hs i => ?_, fun k i hk h => ?_⟩
  · rcases Nat.lt_or_ge i l.length with hi | hi
    · rw [hget i hi]; have := hs.hi i hi; omega
    · rw [List.getD_eq_getElem?_getD, List.getElem?_eq_none (by rw [hs.len]; exact hi)]; exact Nat.zero_le _
  · have := (List.getElem?_eq_some_iff.1 h).1; omega
theorem idx_inj {l : List Nat} (hn : l.Nodup) {k m a : Nat} (h1 : l[k]? = some a) (h2 : l[m]? = some a) : k = m := by
  rcases Nat.lt_trichotomy k m with h | h | h
  · exact absurd (List.mem_of_getElem? (i := k) (by rw [List.getElem?_take, if_pos h]; exact h1)) (not_take hn h2)
  · exact h
  · exact absurd (List.mem_of_getElem? (i := m) (by rw [List.getElem?_take, if_pos h]; exact h2)) (not_take hn h1)
theorem topo_idx (ho : Ord l.length (preOf l) o) {k i : Nat} (h : o[k]? = some i) {a : Nat × Nat} (ha : a ∈ (jb l i).after) : ∃ m, m < k ∧ o[m]? = some a.1 := by
  have h1 := ho.topo k i h a.1 (List.mem_map_of_mem ha)
  obtain ⟨m, hm⟩ := List.getElem?_of_mem h1
  rw [List.getElem?_take] at hm
  split at hm
  · rename_i hmk; exact ⟨m, hmk, hm⟩
  · cases hm
/-- one job's push, whichever it is; if it is next, one more is done -/
theorem PL.push (hj : JOk l) (ho : Ord l.length (preOf l) o) {low : List Nat} (hlow : Low l t low) {r : Nat} {g : List Nat} (h : PL l o t r g) {k i : Nat} (hk : o[k]? = some i) :
    PL l o t r (latS l g i) ∧ (o.length = k + r + 1 → PL l o t (r + 1) (latS l g i)) := by
  have hil := ho.lt i (List.mem_of_getElem? hk)
  have hlt : ∀ a ∈ (jb l i).after, a.1 ≠ i ∧ a.1 < g.length := fun a ha => ⟨(hj.job i hil a ha).2.1, by rw [h.len]; exact (hj.job i hil a ha).1⟩
  rcases Nat.lt_or_ge (k + r) o.length with hkr | hkr
  · obtain ⟨h1, h2, h3, h4, h5⟩ := latF (l := l) (i := i) (jb l i).after g hlt
    have hii : i ∉ (jb l i).after.map (·.1) := fun hm => by
      obtain ⟨a, ha, e⟩ := List.mem_map.1 hm
      exact (hlt a ha).1 e
    have hgi : (latS l g i).getD i 0 = g.getD i 0 := h3 i hii
    have hconi : ∀ a ∈ (jb l i).after, (latS l g i).getD a.1 0 + hr l a.1 + a.2 ≤ (latS l g i).getD i 0 := fun a ha => by
      have e1 := h4 a ha
      have e2 := h.great low hlow i
      have e3 := hlow.con i hil a ha
      rw [hgi]
      unfold latS
      omega
    have hcon : ∀ k' i', o.length ≤ k' + r → o[k']? = some i' → ∀ a ∈ (jb l i').after, (latS l g i).getD a.1 0 + hr l a.1 + a.2 ≤ (latS l g i).getD i' 0 := fun k' i' hk' hi' a ha => by
      have e1 := h.con k' i' hk' hi' a ha
      have e2 := h2 a.1
      have e3 : (latS l g i).getD i' 0 = g.getD i' 0 := h3 i' fun hm => by
        obtain ⟨b, hb, e⟩ := List.mem_map.1 hm
        obtain ⟨m, hmk, hm2⟩ := topo_idx ho hk hb
        have e : b.1 = i' := e
        rw [e] at hm2
        have := idx_inj ho.nodup hm2 hi'
        omega
      rw [e3]
      unfold latS
      omega
    have hgreat : ∀ s, Low l t s → ∀ j, s.getD j 0 ≤ (latS l g i).getD j 0 := fun s hs j => h5 _ j (h.great s hs j) fun a ha e => by
      have e1 := hs.con i hil a ha
      have e2 := h.great s hs i
      rw [e] at e1
      omega
    have hhi : ∀ j, j < l.length → (latS l g i).getD j 0 + hr l j ≤ t := fun j hjl => by
      have e1 := h.hi j hjl
      have e2 := h2 j
      unfold latS
      omega
    have hlen : (latS l g i).length = l.length := by unfold latS; rw [h1, h.len]
    refine ⟨⟨hlen, hhi, hgreat, hcon⟩, fun he => ⟨hlen, hhi, hgreat, fun k' i' hk' hi' => ?_⟩⟩
    rcases Nat.lt_or_ge k k' with hkk | hkk
    · exact hcon k' i' (by omega) hi'
    · have : k' = k := by omega
      subst this
      rw [hk] at hi'
      rw [← Option.some.inj hi']
      exact hconi
  · have e : latS l g i = g := by
      unfold latS
      refine noop _ _ _ fun a ha => ⟨(hlt a ha).2, ?_⟩
      have := h.con k i hkr hk a ha
      omega
    rw [e]
    exact ⟨h, fun he => absurd he (by omega)⟩
theorem PL.fold (hj : JOk l) (ho : Ord l.length (preOf l) o) (hf : o.length = l.length) {low : List Nat} (hlow : Low l t low) {r : Nat} : ∀ (is : List Nat) (g : List Nat), (∀ i ∈ is, i < l.length) → PL l o t r g → PL l o t r (is.foldl (latS l) g)
  | [], _, _, h => h
  | i :: is, g, hlt, h => by
    obtain ⟨k, hk⟩ := List.getElem?_of_mem (full_of_len ho.nodup ho.lt hf i (hlt i List.mem_cons_self))
    exact PL.fold hj ho hf hlow is _ (fun j hjm => hlt j (List.mem_cons_of_mem _ hjm)) (h.push hj ho hlow hk).1
theorem PL.round (hj : JOk l) (ho : Ord l.length (preOf l) o) (hf : o.length = l.length) {low : List Nat} (hlow : Low l t low) {r : Nat} {g : List Nat} (h : PL l o t r g) (hr : r < o.length) : PL l o t (r + 1) ((List.range l.length).foldl (latS l) g) := by
  obtain ⟨x, hx⟩ : ∃ x, o[o.length - 1 - r]? = some x := ⟨_, List.getElem?_eq_getElem (by omega)⟩
  have hxl := ho.lt _ (List.mem_of_getElem? hx)
  obtain ⟨A, B, hAB⟩ := List.append_of_mem (List.mem_range.2 hxl)
  have hlt : ∀ i ∈ A ++ x :: B, i < l.length := fun i hi => List.mem_range.1 (by rw [hAB]; exact hi)
  rw [hAB, List.foldl_append, List.foldl_cons]
  exact PL.fold hj ho hf hlow B _ (fun i hi => hlt i (List.mem_append_right _ (List.mem_cons_of_mem _ hi))) (((PL.fold hj ho hf hlow A g (fun i hi => hlt i (List.mem_append_left _ hi)) h).push hj ho hlow hx).2 (by omega))
theorem PL.rounds (hj : JOk l) (ho : Ord l.length (preOf l) o) (hf : o.length = l.length) {low : List Nat} (hlow : Low l t low) : ∀ r, r ≤ o.length → PL l o t r (latR l t r)
  | 0, _ => PL.base hj fun i hi => by have := hlow.hi i hi; omega
  | r + 1, h => (PL.rounds hj ho hf hlow r (by omega)).round hj ho hf hlow (by omega)
theorem PL.way (hj : JOk l) (ho : Ord l.length (preOf l) o) {low : List Nat} (hlow : Low l t low) : ∀ (C B g : List Nat), o = C.reverse ++ B → PL l o t B.length g → PL l o t o.length (C.foldl (latS l) g)
  | [], B, g, he, h => by
    rw [List.reverse_nil, List.nil_append] at he
    have e : o.length = B.length := by rw [he]
    rw [e]; exact h
  | i :: C, B, g, he, h => by
    rw [List.reverse_cons, List.append_assoc, List.singleton_append] at he
    have hk : o[C.length]? = some i := by rw [he, List.getElem?_append_right (by simp)]; simp
    have hlen : o.length = C.length + B.length + 1 := by rw [he]; simp; omega
    rw [List.foldl_cons]
    exact PL.way hj ho hlow C (i :: B) _ he ((h.push hj ho hlow hk).2 hlen)
theorem PL.low (ho : Ord l.length (preOf l) o) (hf : o.length = l.length) {g : List Nat} (h : PL l o t o.length g) : Low l t g :=
  ⟨h.len, h.hi, fun i hi a ha => by
    obtain ⟨k, hk⟩ := List.getElem?_of_mem (full_of_len ho.nodup ho.lt hf i hi)
    exact h.con k i (by omega) hk a ha⟩
theorem PL.same (ho : Ord l.length (preOf l) o) (hf : o.length = l.length) {g g' : List Nat} (h : PL l o t o.length g) (h' : PL l o t o.length g') : g = g' := by
  apply List.ext_getElem
  · rw [h.len, h'.len]
  · intro i h1 h2
    have e : g.getD i 0 = g'.getD i 0 := Nat.le_antisymm (h'.great g (h.low ho hf) i) (h.great g' (h'.low ho hf) i)
    rw [List.getD_eq_getElem?_getD, List.getD_eq_getElem?_getD, List.getElem?_eq_getElem h1, List.getElem?_eq_getElem h2] at e
    exact e
theorem latK_PL (hj : JOk l) (ho : Ord l.length (preOf l) o) {low : List Nat} (hlow : Low l t low) : PL l o t o.length (latK l o t) :=
  PL.way hj ho hlow o.reverse [] _ (by rw [List.reverse_reverse, List.append_nil]) (PL.base hj fun i hi => by have := hlow.hi i hi; omega)
/-- the latest hours of the program and of the reference -/
theorem lat_same (hj : JOk l) (ho : Ord l.length (preOf l) o) (hf : o.length = l.length) {low : List Nat} (hlow : Low l t low) : latR l t l.length = latK l o t := by
  have h := PL.rounds hj ho hf hlow o.length (Nat.le_refl _)
  rw [hf] at h
  refine PL.same ho hf ?_ (latK_PL hj ho hlow)
  rw [hf]; exact h
/-- the earliest schedule is over at its end -/
theorem earl_low (ho : Ord l.length (preOf l) o) (hf : o.length = l.length) : Low l (endF l (earlK l o)) (earlK l o) :=
  ⟨earlK_len l o, fun i hi => le_endF hi, fun i hi a ha => aft_le.1 (by rw [← earl_fix ho (full_of_len ho.nodup ho.lt hf i hi)]; exact Nat.le_refl _) a ha⟩
end
def critF (l : List Jb) (a b : List Nat) : List Nat := (List.range l.length).filter fun i => decide (a.getD i 0 = b.getD i 0)
end Go.Wk
namespace Go.Wk
open Go.Gv
/-! # One job begins later, others asL early asL they may then -/
def lteS (l : List Jb) (g : List Nat) (i : Nat) : List Nat := g.set i ((jb l i).after.foldl (aftS l g) (g.getD i 0))
def lteR (l : List Jb) (b : List Nat) : Nat → List Nat
  | 0 => b
  | r + 1 => (List.range l.length).foldl (lteS l) (lteR l b r)
section
variable {l : List Jb} {o b : List Nat}
structure Up (l : List Jb) (b : List Nat) (s : List Nat) : Prop where
  base : ∀ i, i < l.length → b.getD i 0 ≤ s.getD i 0
  con : ∀ i, i < l.length → ∀ a ∈ (jb l i).after, s.getD a.1 0 + hr l a.1 + a.2 ≤ s.getD i 0
structure PU (l : List Jb) (o b : List Nat) (r : Nat) (g : List Nat) : Prop where
  len : g.length = l.length
  base : ∀ i, b.getD i 0 ≤ g.getD i 0
  least : ∀ s, Up l b s → ∀ i, i < l.length → g.getD i 0 ≤ s.getD i 0
  con : ∀ k i, k < r → o[k]? = some i → ∀ a ∈ (jb l i).after, g.getD a.1 0 + hr l a.1 + a.2 ≤ g.getD i 0
theorem lteS_get {g : List Nat} {i : Nat} (hi : i < g.length) (j : Nat) : (lteS l g i).getD j 0 = if i = j then (jb l i).after.foldl (aftS l g) (g.getD i 0) else g.getD j 0 := by
  unfold lteS; exact getD_setN _ _ _ _ hi
theorem PU.pull (hj : JOk l) (ho : Ord l.length (preOf l) o) {r : Nat} {g : List Nat} (h : PU l o b r g) {k i : Nat} (hk : o[k]? = some i) :
    PU l o b r (lteS l g i) ∧ (k = r → PU l o b (r + 1) (lteS l g i)) := by
  have hil := ho.lt i (List.mem_of_getElem? hk)
  have hig : i < g.length := by rw [h.len]; exact hil
  have hget := lteS_get (l := l) hig
  obtain ⟨hv1, hv2⟩ := aftS_le (l := l) (at_ := g) (jb l i).after (g.getD i 0) _ |>.1 (Nat.le_refl _)
  have hge : ∀ j, g.getD j 0 ≤ (lteS l g i).getD j 0 := fun j => by
    rw [hget]
    split
    · rename_i e; subst e; exact hv1
    · exact Nat.le_refl _
  have hlen : (lteS l g i).length = l.length := by unfold lteS; simp [h.len]
  have hleast : ∀ s, Up l b s → ∀ j, j < l.length → (lteS l g i).getD j 0 ≤ s.getD j 0 := fun s hs j hjl => by
    rw [hget]
    split
    · rename_i e
      subst e
      refine (aftS_le _ _ _).2 ⟨h.least s hs i hil, fun a ha => ?_⟩
      have e1 := hs.con i hil a ha
      have e2 := h.least s hs a.1 (hj.job i hil a ha).1
      omega
    · exact h.least s hs j hjl
  have hne : ∀ a ∈ (jb l i).after, i ≠ a.1 := fun a ha e => (hj.job i hil a ha).2.1 e.symm
  have hconi : ∀ a ∈ (jb l i).after, (lteS l g i).getD a.1 0 + hr l a.1 + a.2 ≤ (lteS l g i).getD i 0 := fun a ha => by
    rw [hget, hget, if_neg (hne a ha), if_pos rfl]
    exact hv2 a ha
  have hcon : ∀ k' i', k' < r → o[k']? = some i' → ∀ a ∈ (jb l i').after, (lteS l g i).getD a.1 0 + hr l a.1 + a.2 ≤ (lteS l g i).getD i' 0 := fun k' i' hk' hi' a ha => by
    by_cases e : i = i'
    · subst e
      exact hconi a ha
    · have e1 := h.con k' i' hk' hi' a ha
      by_cases e2 : i = a.1
      · obtain ⟨m, hmk, hm⟩ := topo_idx ho hi' ha
        rw [← e2] at hm
        have hc := h.con m i (by omega) hm
        have hsame : (lteS l g i).getD i 0 = g.getD i 0 := by
          rw [hget, if_pos rfl]
          exact Nat.le_antisymm ((aftS_le _ _ _).2 ⟨Nat.le_refl _, hc⟩) hv1
        rw [← e2] at e1 ⊢
        rw [hsame, hget, if_neg e]
        exact e1
      · rw [hget, hget, if_neg e2, if_neg e]
        exact e1
  refine ⟨⟨hlen, fun j => Nat.le_trans (h.base j) (hge j), hleast, hcon⟩, fun he => ⟨hlen, fun j => Nat.le_trans (h.base j) (hge j), hleast, fun k' i' hk' hi' => ?_⟩⟩
  rcases Nat.lt_or_ge k' r with hkk | hkk
  · exact hcon k' i' hkk hi'
  · have : k' = k := by omega
    subst this
    rw [hk] at hi'
    rw [← Option.some.inj hi']
    exact hconi
theorem PU.fold (hj : JOk l) (ho : Ord l.length (preOf l) o) (hf : o.length = l.length) {r : Nat} : ∀ (is : List Nat) (g : List Nat), (∀ i ∈ is, i < l.length) → PU l o b r g → PU l o b r (is.foldl (lteS l) g)
  | [], _, _, h => h
  | i :: is, g, hlt, h => by
    obtain ⟨k, hk⟩ := List.getElem?_of_mem (full_of_len ho.nodup ho.lt hf i (hlt i List.mem_cons_self))
    exact PU.fold hj ho hf is _ (fun j hjm => hlt j (List.mem_cons_of_mem _ hjm)) (h.pull hj ho hk).1
theorem PU.rounds (hj : JOk l) (ho : Ord l.length (preOf l) o) (hf : o.length = l.length) (hb : b.length = l.length) : ∀ r, r ≤ o.length → PU l o b r (lteR l b r)
  | 0, _ => ⟨hb, fun i => Nat.le_refl _, fun s hs i hi => hs.base i hi, fun k i hk => absurd hk (Nat.not_lt_zero k)⟩
  | r + 1, h => by
    have h1 := PU.rounds hj ho hf hb r (by omega)
    have hx : o[r]? = some o[r] := List.getElem?_eq_getElem (by omega)
    have hxl := ho.lt _ (List.mem_of_getElem? hx)
    obtain ⟨A, B, hAB⟩ := List.append_of_mem (List.mem_range.2 hxl)
    have hlt : ∀ i ∈ A ++ o[r] :: B, i < l.length := fun i hi => List.mem_range.1 (by rw [hAB]; exact hi)
    unfold lteR
    rw [hAB, List.foldl_append, List.foldl_cons]
    exact PU.fold hj ho hf B _ (fun i hi => hlt i (List.mem_append_right _ (List.mem_cons_of_mem _ hi))) (((PU.fold hj ho hf A _ (fun i hi => hlt i (List.mem_append_left _ hi)) h1).pull hj ho hx).2 rfl)
/-- the job k begins an hour later -/
def lateB (g : List Nat) (k : Nat) : List Nat := g.set k (g.getD k 0 + 1)
def lateF (l : List Jb) (g : List Nat) (k : Nat) : List Nat := lteR l (lateB g k) l.length
/-- a job is critical when, if it begins later, the end is later -/
theorem crit_iff (hj : JOk l) (ho : Ord l.length (preOf l) o) (hf : o.length = l.length) {k : Nat} (hk : k < l.length) :
    ((earlK l o).getD k 0 = (latK l o (endF l (earlK l o))).getD k 0) ↔ endF l (earlK l o) < endF l (lateF l (earlK l o) k) := by
  have hE := earl_low ho hf
  have hP := latK_PL hj ho hE
  have hL := hP.low ho hf
  have hbl : (lateB (earlK l o) k).length = l.length := by unfold lateB; rw [List.length_set, earlK_len]
  have hbg : ∀ j, (lateB (earlK l o) k).getD j 0 = if k = j then (earlK l o).getD k 0 + 1 else (earlK l o).getD j 0 := fun j => by
    unfold lateB; exact getD_setN _ _ _ _ (by rw [earlK_len]; exact hk)
  have hU := PU.rounds hj ho hf hbl o.length (Nat.le_refl _)
  rw [hf] at hU
  have hUc : ∀ i, i < l.length → ∀ a ∈ (jb l i).after, (lateF l (earlK l o) k).getD a.1 0 + hr l a.1 + a.2 ≤ (lateF l (earlK l o) k).getD i 0 := fun i hi a ha => by
    obtain ⟨m, hm⟩ := List.getElem?_of_mem (full_of_len ho.nodup ho.lt hf i hi)
    exact hU.con m i (by have := (List.getElem?_eq_some_iff.1 hm).1; omega) hm a ha
  have hge := hP.great _ hE k
  constructor
  · intro he
    apply Classical.byContradiction
    intro hno
    have h1 : Low l (endF l (earlK l o)) (lateF l (earlK l o) k) := ⟨hU.len, fun i hi => Nat.le_trans (le_endF hi) (by omega), hUc⟩
    have h2 := hP.great _ h1 k
    have h3 := hU.base k
    rw [hbg, if_pos rfl] at h3
    unfold lateF at h2
    omega
  · intro hlt
    apply Classical.byContradiction
    intro hne
    have h1 : Up l (lateB (earlK l o) k) (latK l o (endF l (earlK l o))) := ⟨fun i hi => by
      rw [hbg]
      split
      · rename_i e; subst e; omega
      · exact hP.great _ hE i, hL.con⟩
    have h2 : endF l (lateF l (earlK l o) k) ≤ endF l (earlK l o) := by
      rw [endF_le]
      intro i hi
      have e1 := hU.least _ h1 i hi
      have e2 := hL.hi i hi
      unfold lateF
      omega
    omega
end
end Go.Wk
namespace Go.Wk
open Go.Gv
open Go.Sn
/-! # Jobs asL they come; what Check says -/
structure JI where
  name : ByteArray
  bench : Int
  hours : Int
  aa : Option Addr
  ac : Nat
  after : List (Int × Int)
  deriving Inhabited
def lagC (a : Int × Int) : List Value := [.int .i64 a.1, .int .i64 a.2]
def lagN (a : Nat × Nat) : List Value := [natV a.1, natV a.2]
def JI.cells (x : JI) : List Value := [.string x.name, .int .i64 x.bench, .int .i64 x.hours, .slice x.aa x.after.length x.ac]
abbrev JI.val (x : JI) : Value := .agg #[.string x.name, .int .i64 x.bench, .int .i64 x.hours, .slice x.aa x.after.length x.ac]
def Jb.cells (x : Jb) : List Value := [.string x.name, natV x.bench, natV x.hours, .slice x.aa x.after.length x.ac]
abbrev Jb.val (x : Jb) : Value := .agg #[.string x.name, natV x.bench, natV x.hours, .slice x.aa x.after.length x.ac]
structure JsIn (a : Option Addr) (l : List JI) (w : World) (S : List Nat) : Prop where
  t : OldSl w S a l.length 4 (l.flatMap JI.cells)
  r : ∀ x ∈ l, OldSl w S x.aa x.after.length 2 (x.after.flatMap lagC)
structure JsLe (l : List JI) : Prop where
  t : l.length ≤ 140737488355328
  r : ∀ x ∈ l, x.after.length ≤ 140737488355328
  n : ∀ x ∈ l, x.name.size ≤ 140737488355328
theorem JsIn.at {a : Option Addr} {l : List JI} {w0 w : World} {S : List Nat} {L : List HL} (h : JsIn a l w0 S) (ho : Own w0 S w L) : JsIn a l w [] := ⟨h.t.at ho, fun x hx => (h.r x hx).at ho⟩
theorem JsIn.atS {a : Option Addr} {l : List JI} {w0 w : World} {S Sc : List Nat} {L : List HL} (h : JsIn a l w0 S) (ho : Own w0 S w L) (hlt : ∀ b ∈ Sc, w0.heap.size ≤ b) : JsIn a l w Sc := ⟨h.t.atS ho (by decide) hlt, fun x hx => (h.r x hx).atS ho (by decide) hlt⟩
structure JnIn (a : Option Addr) (l : List Jb) (w : World) (S : List Nat) : Prop where
  t : OldSl w S a l.length 4 (l.flatMap Jb.cells)
  r : ∀ x ∈ l, OldSl w S x.aa x.after.length 2 (x.after.flatMap lagN)
theorem JnIn.at {a : Option Addr} {l : List Jb} {w0 w : World} {S : List Nat} {L : List HL} (h : JnIn a l w0 S) (ho : Own w0 S w L) : JnIn a l w [] := ⟨h.t.at ho, fun x hx => (h.r x hx).at ho⟩
theorem JnIn.atS {a : Option Addr} {l : List Jb} {w0 w : World} {S Sc : List Nat} {L : List HL} (h : JnIn a l w0 S) (ho : Own w0 S w L) (hlt : ∀ b ∈ Sc, w0.heap.size ≤ b) : JnIn a l w Sc := ⟨h.t.atS ho (by decide) hlt, fun x hx => (h.r x hx).atS ho (by decide) hlt⟩
def lagI (a : Nat × Nat) : Int × Int := ((a.1 : Int), (a.2 : Int))
def Jb.ji (x : Jb) : JI := ⟨x.name, x.bench, x.hours, x.aa, x.ac, x.after.map lagI⟩
def JI.jb (x : JI) : Jb := ⟨x.name, x.bench.toNat, x.hours.toNat, x.aa, x.ac, x.after.map fun a => (a.1.toNat, a.2.toNat)⟩
theorem Jb.ji_cells (x : Jb) : x.ji.cells = x.cells := by simp [Jb.ji, JI.cells, Jb.cells]
theorem ji_after (l : List (Nat × Nat)) : (l.map lagI).flatMap lagC = l.flatMap lagN := by
  rw [List.flatMap_map]
  congr
theorem JnIn.of {a : Option Addr} {l : List Jb} {w : World} {S : List Nat} (h : JsIn a (l.map Jb.ji) w S) : JnIn a l w S := by
  obtain ⟨h1, h2⟩ := h
  refine ⟨?_, fun x hx => ?_⟩
  · rw [List.length_map, List.flatMap_map] at h1
    simp only [Jb.ji_cells] at h1
    exact h1
  · have := h2 x.ji (List.mem_map_of_mem hx)
    simp only [Jb.ji, List.length_map, ji_after] at this
    exact this
def lagAt (n : Nat) (i : Nat) (asL : List (Int × Int)) (k : Nat) : Bool :=
  decide (0 ≤ (asL.getD k default).1) && decide ((asL.getD k default).1 ≤ (n : Int) - 1) && decide ((asL.getD k default).1 ≠ (i : Int)) && decide (0 ≤ (asL.getD k default).2) && decide ((asL.getD k default).2 ≤ 1000) && (decide (k = 0) || decide ((asL.getD (k - 1) default).1 < (asL.getD k default).1))
def headB (x : JI) : Bool := nameB x.name && decide (0 ≤ x.bench) && decide (x.bench ≤ 5) && decide (1 ≤ x.hours) && decide (x.hours ≤ 1000)
def validB (n i : Nat) (x : JI) : Bool := headB x && (List.range x.after.length).all (lagAt n i x.after)
theorem validB_yes {n i : Nat} {x : JI} (h : ∀ k, k < x.after.length → lagAt n i x.after k = true) : validB n i x = headB x := by
  unfold validB
  rw [List.all_eq_true.2 fun k hk => h k (List.mem_range.1 hk), Bool.and_true]
theorem validB_no {n i k : Nat} {x : JI} (hk : k < x.after.length) (h : lagAt n i x.after k = false) : validB n i x = false := by
  unfold validB
  rw [show (List.range x.after.length).all (lagAt n i x.after) = false from by rw [List.all_eq_false]; exact ⟨k, List.mem_range.2 hk, by rw [h]; decide⟩, Bool.and_false]
def lngB (l : List JI) : Bool := decide (40 < l.length) || l.any fun x => decide (10 < x.after.length)
def allB (l : List JI) : Bool := (List.range l.length).all fun i => validB l.length i (l.getD i default)
def names (l : List JI) : List ByteArray := l.map JI.name
def preI (l : List JI) : Nat → List Nat := preOf (l.map JI.jb)
def checkE (l : List JI) : Int :=
  if lngB l = true then 3 else if allB l = false then 2 else if ¬ (names l).Nodup then 8 else if circleP l.length (preI l) = true then 290 else 0
theorem allB_no {l : List JI} {i : Nat} {x : JI} (hx : l[i]? = some x) (h : validB l.length i x = false) : allB l = false := by
  unfold allB
  rw [List.all_eq_false]
  refine ⟨i, List.mem_range.2 (List.getElem?_eq_some_iff.1 hx).1, ?_⟩
  rw [List.getD_eq_getElem?_getD, hx, Option.getD_some, h]; decide
theorem allB_yes {l : List JI} (h : ∀ i x, l[i]? = some x → validB l.length i x = true) : allB l = true := by
  unfold allB
  rw [List.all_eq_true]
  intro i hi
  have hi := List.mem_range.1 hi
  have hx : l[i]? = some l[i] := List.getElem?_eq_getElem hi
  rw [List.getD_eq_getElem?_getD, hx]
  exact h i _ hx
theorem put_nodup : ∀ (ns ks : List ByteArray), ks.Nodup → (ns.foldl putN ks).Nodup ∧ (ns.foldl putN ks).length ≤ ks.length + ns.length ∧ ((ns.foldl putN ks).length = ks.length + ns.length ↔ (ns.Nodup ∧ ∀ x ∈ ns, x ∉ ks))
  | [], ks, h => ⟨h, by simp, by simp⟩
  | a :: ns, ks, h => by
    rw [List.foldl_cons]
    by_cases hm : memB a ks = true
    · have e : putN ks a = ks := by unfold putN; rw [if_pos hm]
      obtain ⟨h1, h2, h3⟩ := put_nodup ns ks h
      rw [e]
      refine ⟨h1, by rw [List.length_cons]; omega, ?_⟩
      constructor
      · intro h4; rw [List.length_cons] at h4; omega
      · intro h4; exact absurd (memB_iff.1 hm) (h4.2 a List.mem_cons_self)
    · have hni : a ∉ ks := fun h5 => hm (memB_iff.2 h5)
      have e : putN ks a = ks ++ [a] := by unfold putN; rw [if_neg hm]
      have hn : (ks ++ [a]).Nodup := by
        rw [List.nodup_append]
        refine ⟨h, by simp, fun x hx y hy => ?_⟩
        rw [List.mem_singleton.1 hy]
        exact fun e => hni (e ▸ hx)
      obtain ⟨h1, h2, h3⟩ := put_nodup ns (ks ++ [a]) hn
      rw [e]
      have hl : (ks ++ [a]).length = ks.length + 1 := by simp
      rw [hl] at h2 h3
      refine ⟨h1, by rw [List.length_cons]; omega, ?_⟩
      rw [List.length_cons, show ks.length + (ns.length + 1) = ks.length + 1 + ns.length by omega, h3, List.nodup_cons]
      constructor
      · rintro ⟨h4, h5⟩
        refine ⟨⟨fun h6 => h5 a h6 (List.mem_append_right _ List.mem_cons_self), h4⟩, fun x hx => ?_⟩
        rcases List.mem_cons.1 hx with rfl | hx
        · exact hni
        · exact fun h6 => h5 x hx (List.mem_append_left _ h6)
      · rintro ⟨⟨h4, h5⟩, h6⟩
        refine ⟨h5, fun x hx h7 => ?_⟩
        rcases List.mem_append.1 h7 with h7 | h7
        · exact h6 x (List.mem_cons_of_mem _ hx) h7
        · rw [List.mem_singleton.1 h7] at hx
          exact h4 hx
def putP (l : List JI) (k : Nat) : List ByteArray := ((names l).take k).foldl putN []
theorem putP_zero (l : List JI) : putP l 0 = [] := rfl
theorem putP_next {l : List JI} {k : Nat} {x : JI} (h : l[k]? = some x) : putP l (k + 1) = putN (putP l k) x.name := by
  unfold putP
  have : (names l)[k]? = some x.name := by unfold names; rw [List.getElem?_map, h]; rfl
  rw [take_at this, List.foldl_append]; rfl
theorem putP_le (l : List JI) (k : Nat) : (putP l k).length ≤ k := by
  have := (put_nodup ((names l).take k) [] List.nodup_nil).2.1
  unfold putP
  rw [List.length_take] at this
  simp only [List.length_nil] at this
  omega
theorem putP_all (l : List JI) : ((putP l l.length).length < l.length) ↔ ¬ (names l).Nodup := by
  have h := put_nodup (names l) [] List.nodup_nil
  have hn : (names l).length = l.length := by unfold names; simp
  have e : (names l).take l.length = names l := List.take_of_length_le (by omega)
  unfold putP
  rw [e]
  simp only [List.length_nil, Nat.zero_add] at h
  obtain ⟨_, h2, h3⟩ := h
  constructor
  · intro h4 h5
    have := h3.2 ⟨h5, fun _ _ h => by cases h⟩
    omega
  · intro h4
    apply Classical.byContradiction
    intro h5
    exact h4 (h3.1 (by omega)).1
/-! ## jobs that are valid -/
theorem lag_of {n i : Nat} {asL : List (Int × Int)} {k : Nat} {a : Int × Int} (hk : asL[k]? = some a) (h : lagAt n i asL k = true) : 0 ≤ a.1 ∧ a.1 ≤ (n : Int) - 1 ∧ a.1 ≠ (i : Int) ∧ 0 ≤ a.2 ∧ a.2 ≤ 1000 := by
  unfold lagAt at h
  rw [List.getD_eq_getElem?_getD, hk] at h
  simp only [Option.getD_some, Bool.and_eq_true, decide_eq_true_eq] at h
  exact ⟨h.1.1.1.1.1, h.1.1.1.1.2, h.1.1.1.2, h.1.1.2, h.1.2⟩
theorem lag_asc {n i : Nat} {asL : List (Int × Int)} {k : Nat} {a b : Int × Int} (hk : asL[k]? = some a) (hk2 : asL[k + 1]? = some b) (h : lagAt n i asL (k + 1) = true) : a.1 < b.1 := by
  unfold lagAt at h
  rw [List.getD_eq_getElem?_getD, hk2, List.getD_eq_getElem?_getD, Nat.add_sub_cancel, hk] at h
  simp only [Option.getD_some, Bool.and_eq_true, Bool.or_eq_true, decide_eq_true_eq] at h
  rcases h.2 with h | h
  · omega
  · exact h
theorem pw_of {α : Type} {R : α → α → Prop} (ht : ∀ a b c, R a b → R b c → R a c) : ∀ l : List α, (∀ k a b, l[k]? = some a → l[k + 1]? = some b → R a b) → l.Pairwise R
  | [], _ => List.Pairwise.nil
  | [a], _ => List.pairwise_singleton _ _
  | a :: b :: l, h => by
    have ih := pw_of ht (b :: l) fun k x y h1 h2 => h (k + 1) x y h1 h2
    have hab : R a b := h 0 a b rfl rfl
    refine List.pairwise_cons.2 ⟨fun x hx => ?_, ih⟩
    rcases List.mem_cons.1 hx with rfl | hx
    · exact hab
    · exact ht a b x hab ((List.pairwise_cons.1 ih).1 x hx)
theorem val_of {l : List JI} (h1 : lngB l = false) (h2 : allB l = true) : ∃ n : List Jb, l = n.map Jb.ji ∧ JOk n ∧ preI l = preOf n := by
  unfold lngB at h1
  simp only [Bool.or_eq_false_iff, decide_eq_false_iff_not, List.any_eq_false, decide_eq_true_eq] at h1
  obtain ⟨hn, hl⟩ := h1
  unfold allB at h2
  rw [List.all_eq_true] at h2
  have hv : ∀ (i : Nat) (x : JI), l[i]? = some x → validB l.length i x = true := fun i x hx => by
    have := h2 i (List.mem_range.2 (List.getElem?_eq_some_iff.1 hx).1)
    rw [List.getD_eq_getElem?_getD, hx] at this
    exact this
  have hv2 : ∀ (i : Nat) (x : JI), l[i]? = some x → headB x = true ∧ ∀ k, k < x.after.length → lagAt l.length i x.after k = true := fun i x hx => by
    have := hv i x hx
    unfold validB at this
    rw [Bool.and_eq_true, List.all_eq_true] at this
    exact ⟨this.1, fun k hk => this.2 k (List.mem_range.2 hk)⟩
  have hji : ∀ (i : Nat) (x : JI), l[i]? = some x → x.jb.ji = x := fun i x hx => by
    obtain ⟨h3, h4⟩ := hv2 i x hx
    unfold headB at h3
    simp only [Bool.and_eq_true, decide_eq_true_eq] at h3
    obtain ⟨name, bench, hours, aa, ac, after⟩ := x
    simp only [JI.jb, Jb.ji, JI.mk.injEq, true_and, List.map_map] at h3 ⊢
    refine ⟨by omega, by omega, ?_⟩
    conv => rhs; rw [← List.map_id after]
    apply List.map_congr_left
    intro a ha
    obtain ⟨k, hk⟩ := List.getElem?_of_mem ha
    have h5 := lag_of hk (h4 k (List.getElem?_eq_some_iff.1 hk).1)
    obtain ⟨a1, a2⟩ := a
    simp only [Function.comp, lagI, id, Prod.mk.injEq] at h5 ⊢
    omega
  have hmap : l = (l.map JI.jb).map Jb.ji := by
    rw [List.map_map]
    apply List.ext_getElem?
    intro i
    rw [List.getElem?_map]
    cases hx : l[i]? with
    | none => rfl
    | some x => rw [Option.map_some, Function.comp, hji i x hx]
  have hjb : ∀ i, i < (l.map JI.jb).length → ∃ x, l[i]? = some x ∧ jb (l.map JI.jb) i = x.jb := fun i hi => by
    rw [List.length_map] at hi
    refine ⟨l[i], List.getElem?_eq_getElem hi, ?_⟩
    unfold jb
    rw [List.getD_eq_getElem?_getD, List.getElem?_map, List.getElem?_eq_getElem hi]; rfl
  refine ⟨l.map JI.jb, hmap, ⟨by rw [List.length_map]; omega, fun x hx => ?_, fun i hi a ha => ?_, fun i hi => ?_, fun i hi => ?_, fun i hi => ?_⟩, rfl⟩
  · obtain ⟨y, hy, rfl⟩ := List.mem_map.1 hx
    have := hl y hy
    simp only [JI.jb, List.length_map]
    omega
  · obtain ⟨x, hx, e⟩ := hjb i hi
    rw [e] at ha
    obtain ⟨b, hb, rfl⟩ := List.mem_map.1 ha
    obtain ⟨k, hk⟩ := List.getElem?_of_mem hb
    have h5 := lag_of hk ((hv2 i x hx).2 k (List.getElem?_eq_some_iff.1 hk).1)
    rw [List.length_map]
    simp only
    omega
  · obtain ⟨x, hx, e⟩ := hjb i hi
    rw [e]
    have h6 := (hv2 i x hx).2
    refine pw_of (R := (· < ·)) (fun (a b c : Nat) h1 h2 => Nat.lt_trans h1 h2) _ fun k a b ha hb => ?_
    simp only [JI.jb, List.map_map, List.getElem?_map] at ha hb
    cases hxa : x.after[k]? with
    | none => rw [hxa] at ha; simp at ha
    | some a' =>
      cases hxb : x.after[k + 1]? with
      | none => rw [hxb] at hb; simp at hb
      | some b' =>
        rw [hxa] at ha
        rw [hxb] at hb
        simp only [Option.map_some, Option.some.injEq, Function.comp] at ha hb
        have h7 := lag_of hxa (h6 k (List.getElem?_eq_some_iff.1 hxa).1)
        have h8 := lag_of hxb (h6 (k + 1) (List.getElem?_eq_some_iff.1 hxb).1)
        have h9 := lag_asc hxa hxb (h6 (k + 1) (List.getElem?_eq_some_iff.1 hxb).1)
        omega
  · obtain ⟨x, hx, e⟩ := hjb i hi
    unfold hr
    rw [e]
    have h3 := (hv2 i x hx).1
    unfold headB at h3
    simp only [Bool.and_eq_true, decide_eq_true_eq] at h3
    simp only [JI.jb]
    omega
  · obtain ⟨x, hx, e⟩ := hjb i hi
    rw [e]
    have h3 := (hv2 i x hx).1
    unfold headB at h3
    simp only [Bool.and_eq_true, decide_eq_true_eq] at h3
    simp only [JI.jb]
    omega
/-- jobs of which all is well -/
theorem good_of {l : List JI} (h : checkE l = 0) : ∃ n : List Jb, l = n.map Jb.ji ∧ JOk n ∧ circleP n.length (preOf n) = false := by
  unfold checkE at h
  cases h1 : lngB l with
  | true => rw [h1] at h; simp at h
  | false =>
    cases h2 : allB l with
    | false => rw [h1, h2] at h; simp at h
    | true =>
      obtain ⟨n, e, hj, hp⟩ := val_of h1 h2
      refine ⟨n, e, hj, ?_⟩
      rw [h1, h2] at h
      simp only [Bool.false_eq_true, if_false, Bool.true_eq_false] at h
      split at h
      · simp at h
      · cases hc : circleP l.length (preI l) with
        | true => rw [hc] at h; simp at h
        | false => rw [hp, e, List.length_map] at hc; exact hc
theorem full_of {n : List Jb} {o : List Nat} (ho : Ord n.length (preOf n) o) (hc : circleP n.length (preOf n) = false) : o.length = n.length := by
  have := circle_iff ho
  rw [hc] at this
  simpa using this.symm
theorem hr_at {l : List Jb} {i : Nat} {x : Jb} (h : l[i]? = some x) : hr l i = x.hours := by unfold hr jb; rw [List.getD_eq_getElem?_getD, h]; rfl
theorem jb_at {l : List Jb} {i : Nat} {x : Jb} (h : l[i]? = some x) : jb l i = x := by unfold jb; rw [List.getD_eq_getElem?_getD, h]; rfl
end Go.Wk
namespace Go.Gv
open Go.RowKit
open Go.Sn
/-! # Rows in a tail -/
section
variable {dm : List Deferred} {P : Program} {n : Nat} {Q : Exit → Act → World → Prop} {K : Act → World → Prop} {e : Env} {w0 : World} {S : List Nat} {l : List HL} {d : Nat} {dst : Option Nat} {ty : TypeId} {pos : String} {aft : Array Edge} {gd : Option (Nat × Bool)}
theorem Own.nilTail {w : World} (ho : Own w0 S w l) (t : TypeId) (m : Nat) : Own w0 S w (l ++ (List.replicate m (⟨none, 0, []⟩ : KG)).map (KG.hl t)) := by
  have hm : ∀ x ∈ (List.replicate m (⟨none, 0, []⟩ : KG)).map (KG.hl t), x = .row t 1 none 0 0 [] := fun x hx => by
    obtain ⟨y, hy, rfl⟩ := List.mem_map.1 hx
    rw [(List.mem_replicate.1 hy).2]; rfl
  refine ⟨ho.os, ho.tape, ho.output, ho.size, ho.old, fun x hx => ?_, fun x hx b hb => ?_, ?_⟩
  · rcases List.mem_append.1 hx with hx | hx
    · exact ho.holds x hx
    · rw [hm x hx]; exact ⟨by simp, rfl, rfl⟩
  · rcases List.mem_append.1 hx with hx | hx
    · exact ho.place x hx b hb
    · rw [hm x hx] at hb; cases hb
  · rw [List.filterMap_append]
    have : ((List.replicate m (⟨none, 0, []⟩ : KG)).map (KG.hl t)).filterMap HL.block = [] := by
      rw [List.filterMap_eq_nil_iff]
      intro x hx
      rw [hm x hx]; rfl
    rw [this, List.append_nil]
    exact ho.nodup
theorem gk_nils (t : TypeId) (m : Nat) (k : GK dm n K e w0 S (l ++ (List.replicate m (⟨none, 0, []⟩ : KG)).map (KG.hl t))) : GK dm n K e w0 S l := fun a w hs ho => k a w hs (ho.nilTail t m)
theorem tl_get {A : List HL} {G : List KG} {t : TypeId} {j : Nat} {g : KG} (N : Nat) (hA : A.length = N) (hg : G[j]? = some g) : (A ++ G.map (KG.hl t))[N + j]? = some (.row t 1 g.r g.ks.length g.c (g.ks.map natV)) := by
  rw [List.getElem?_append_right (by omega), hA, Nat.add_sub_cancel_left, List.getElem?_map, hg]; rfl
theorem op_appendTl (N i2 : Nat) {A : List HL} {G : List KG} {j : Nat} {g : KG} {t E E2 : TypeId} {z : Value} {bytes : Nat} {x y : Operand} {b c v : Nat} (hA : A.length = N) (hg : G[j]? = some g) (hu : P.underlying t = some (.slice E)) (ht : TyF P E z 1 bytes)
    (hzs : z.cells.size = 1) (hd : Nat.ble n d = false) (hx : e.ev x = some (.slice (rowA g.r) g.ks.length g.c)) (hy : e.ev y = some (.slice (some ⟨b, 0, none⟩) 1 c)) (hi2 : A[i2]? = some (.row E2 1 (some b) 1 c [natV v]))
    (hb : (g.ks.length + 1) * bytes ≤ 140737488355328) (h63 : g.ks.length + 1 ≤ 9223372036854775807)
    (k : ∀ r' cap', GK dm n K ((d, .slice (rowA r') (g.ks.length + 1) cap') :: e) w0 S (A ++ (G.set j ⟨r', cap', g.ks ++ [v]⟩).map (KG.hl E))) :
    GK dm n (fun a w => Oper.wp P ⟨some d, .call { callee := .builtin .append, args := #[x, y], argTypes := #[t, t] }, ty, pos, aft, gd⟩ a w K Q) e w0 S (A ++ G.map (KG.hl E)) := by
  have hjl := (List.getElem?_eq_some_iff.1 hi2).1
  refine op_appendRow (N + j) i2 (lf := fun z => A ++ (G.map (KG.hl E)).set j z) hu ht hzs (by decide) hd hx hy (tl_get N hA hg) (by rw [List.getElem?_append_left hjl]; exact hi2) (by simp [Value.oneCell']) hb h63 (fun z => ?_) (fun r' cap' => ?_)
  · rw [List.set_append_right _ _ (by omega), hA, Nat.add_sub_cancel_left]
  · have := k r' cap'
    rw [List.map_set] at this
    have e2 : KG.hl E (⟨r', cap', g.ks ++ [v]⟩ : KG) = .row E 1 r' (g.ks.length + 1) cap' (g.ks.map natV ++ [natV v]) := by simp [KG.hl]
    rw [e2] at this
    exact this
theorem kg_set1 {G : List KG} {j : Nat} {g : KG} {r : Option Nat} {c v : Nat} : (G.map KG.cell).set j (.slice (rowA r) (g.ks.length + 1) c) = (G.set j ⟨r, c, g.ks ++ [v]⟩).map KG.cell := by
  rw [List.map_set]
  congr 1
  simp [KG.cell]
end
end Go.Gv
namespace Go.Wk
open Go.Gv
open Go.Sn
/-! # The order's tables -/
def opI (n : Nat) (pre : Nat → List Nat) (i : Nat) : List Nat := (List.range n).map fun q => if q < i then (pre q).length else 0
def outI (pre : Nat → List Nat) (i : Nat) : List Nat := (List.range i).filter fun q => decide (pre q = [])
def nxtI (pre : Nat → List Nat) (i k j : Nat) : List Nat := ((List.range i).filter fun q => decide (j ∈ pre q)) ++ if j ∈ (pre i).take k then [i] else []
structure RsOk (n : Nat) (pre : Nat → List Nat) (i k : Nat) (G : List KG) : Prop where
  len : G.length = n
  row : ∀ (j : Nat) (g : KG), G[j]? = some g → g.ks = nxtI pre i k j
section
variable {n : Nat} {pre : Nat → List Nat} {i k : Nat} {G : List KG}
theorem opI_zero (n : Nat) (pre : Nat → List Nat) : opI n pre 0 = List.replicate n 0 := by
  unfold opI
  apply List.ext_getElem?
  intro q
  rw [List.getElem?_map, List.getElem?_replicate]
  by_cases h : q < n
  · rw [List.getElem?_range h, if_pos h]; rfl
  · rw [List.getElem?_eq_none (by simpa using h), if_neg h]; rfl
theorem opI_len (n : Nat) (pre : Nat → List Nat) (i : Nat) : (opI n pre i).length = n := by unfold opI; simp
theorem opI_next (hi : i < n) : (opI n pre i).set i (pre i).length = opI n pre (i + 1) := by
  apply List.ext_getElem?
  intro q
  rw [List.getElem?_set, opI_len]
  unfold opI
  rw [List.getElem?_map, List.getElem?_map]
  by_cases h : q < n
  · rw [List.getElem?_range h, Option.map_some, Option.map_some]
    by_cases e : i = q
    · subst e; simp [hi]
    · rw [if_neg e]
      congr 1
      by_cases h2 : q < i
      · rw [if_pos h2, if_pos (by omega)]
      · rw [if_neg h2, if_neg (by omega)]
  · rw [List.getElem?_eq_none (by simpa using h)]
    rw [if_neg (by omega)]; rfl
theorem opI_at (hi : i < n) : (opI n pre (i + 1)).getD i 0 = (pre i).length := by
  unfold opI
  rw [List.getD_eq_getElem?_getD, List.getElem?_map, List.getElem?_range hi]
  simp
theorem opI_all : opI n pre n = (List.range n).map fun q => (pre q).length := by
  unfold opI
  apply List.map_congr_left
  intro q hq
  rw [if_pos (List.mem_range.1 hq)]
theorem outI_next (h : pre i = []) : outI pre (i + 1) = outI pre i ++ [i] := by
  unfold outI; rw [List.range_succ, List.filter_append]; simp [h]
theorem outI_same (h : pre i ≠ []) : outI pre (i + 1) = outI pre i := by
  unfold outI; rw [List.range_succ, List.filter_append]; simp [h]
theorem outI_len (i : Nat) : (outI pre i).length ≤ i := by
  unfold outI
  exact Nat.le_trans (List.length_filter_le _ _) (by simp)
theorem RsOk.zero : RsOk n pre 0 0 (List.replicate n (⟨none, 0, []⟩ : KG)) := by
  refine ⟨by simp, fun j g hg => ?_⟩
  rw [List.getElem?_replicate] at hg
  split at hg
  · rw [← Option.some.inj hg]; simp [nxtI]
  · cases hg
theorem nxtI_len (k j : Nat) : (nxtI pre i k j).length ≤ i + 1 := by
  unfold nxtI
  rw [List.length_append]
  have h1 := List.length_filter_le (fun q => decide (j ∈ pre q)) (List.range i)
  rw [List.length_range] at h1
  split
  · simp only [List.length_cons, List.length_nil]; omega
  · simp only [List.length_nil]; omega
theorem RsOk.step (h : RsOk n pre i k G) (hn : (pre i).Nodup) {p : Nat} (hp : (pre i)[k]? = some p) {g : KG} (hg : G[p]? = some g) (r : Option Nat) (c : Nat) : RsOk n pre i (k + 1) (G.set p ⟨r, c, g.ks ++ [i]⟩) := by
  have hpl := (List.getElem?_eq_some_iff.1 hg).1
  refine ⟨by rw [List.length_set]; exact h.len, fun j y hy => ?_⟩
  have hni := not_take hn hp
  rw [List.getElem?_set] at hy
  split at hy
  · rename_i e
    subst e
    first | rw [if_pos hpl] at hy | skip
    rw [← Option.some.inj hy]
    show g.ks ++ [i] = _
    rw [h.row _ g hg]
    unfold nxtI
    rw [if_neg hni, if_pos (by rw [take_at hp]; simp), List.append_nil]
  · rename_i e
    rw [h.row _ y hy]
    unfold nxtI
    congr 1
    rw [take_at hp]
    simp only [List.mem_append, List.mem_singleton]
    have : ¬ (j = p) := fun e2 => e e2.symm
    simp [this]
theorem RsOk.next (h : RsOk n pre i k G) (hk : (pre i).length ≤ k) : RsOk n pre (i + 1) 0 G := by
  refine ⟨h.len, fun j y hy => ?_⟩
  rw [h.row j y hy]
  unfold nxtI
  rw [List.take_of_length_le hk, List.range_succ, List.filter_append]
  by_cases e : j ∈ pre i
  · simp [e]
  · simp [e]
theorem RsOk.all (h : RsOk n pre n 0 G) {j : Nat} {g : KG} (hg : G[j]? = some g) : g.ks = nxt n pre j := by
  rw [h.row j g hg]
  unfold nxtI nxt
  simp
end
theorem pre_nodup {l : List Jb} (hj : JOk l) (i : Nat) : (preOf l i).Nodup := by
  unfold preOf
  rcases Nat.lt_or_ge i l.length with h | h
  · exact List.Pairwise.imp (fun h => Nat.ne_of_lt h) (hj.asc i h)
  · rw [jb_none h]; simp
theorem kn_start {l : List Jb} : Kn l.length (preOf l) 0 0 (opI l.length (preOf l) l.length) (outI (preOf l) l.length) := kn_init opI_all rfl
end Go.Wk
namespace Go.Proofs.Ytafmcflggikbfaa
open Go.Gv
open Go.RowKit
open Go.Sn
open Go.Wk
theorem ty_2 : TyF Try.prog 2 (.int .i64 0) 1 8 := TyF.mk' (by kernel_rfl)
theorem ty_3 : TyF Try.prog 3 (.int .i64 0) 1 8 := TyF.mk' (by kernel_rfl)
theorem ty_4 : TyF Try.prog 4 (.bool false) 1 1 := TyF.mk' (by kernel_rfl)
theorem ty_25 : TyF Try.prog 25 (.slice none 0 0) 1 24 := TyF.mk' (by kernel_rfl)
theorem ty_29 : TyF Try.prog 29 (.slice none 0 0) 1 24 := TyF.mk' (by kernel_rfl)
theorem ty_48 : TyF Try.prog 48 (.agg #[.string ⟨#[]⟩, .int .i64 0, .int .i64 0, .slice none 0 0]) 4 56 := TyF.mk' (by kernel_rfl)
theorem ty_50 : TyF Try.prog 50 (.agg #[.int .i64 0, .int .i64 0]) 2 16 := TyF.mk' (by kernel_rfl)
theorem ty_88 : TyF Try.prog 88 (.agg #[.int .i64 0, .int .i64 0, .int .i64 0, .int .i64 0, .int .i64 0, .int .i64 0]) 6 48 := TyF.mk' (by kernel_rfl)
theorem ty_89 : TyF Try.prog 89 (.nilFunc) 1 8 := TyF.mk' (by kernel_rfl)
theorem fa_48_0 (ad : Addr) (w : World) : (Instr.fieldAt 48 (.pointer (some ad)) 0).run Try.prog w = .ok (.pointer (some (ad.add 0))) w := by cases ad; kernel_rfl
theorem fa_48_1 (ad : Addr) (w : World) : (Instr.fieldAt 48 (.pointer (some ad)) 1).run Try.prog w = .ok (.pointer (some (ad.add 1))) w := by cases ad; kernel_rfl
theorem fa_48_2 (ad : Addr) (w : World) : (Instr.fieldAt 48 (.pointer (some ad)) 2).run Try.prog w = .ok (.pointer (some (ad.add 2))) w := by cases ad; kernel_rfl
theorem fa_48_3 (ad : Addr) (w : World) : (Instr.fieldAt 48 (.pointer (some ad)) 3).run Try.prog w = .ok (.pointer (some (ad.add 3))) w := by cases ad; kernel_rfl
theorem fa_50_0 (ad : Addr) (w : World) : (Instr.fieldAt 50 (.pointer (some ad)) 0).run Try.prog w = .ok (.pointer (some (ad.add 0))) w := by cases ad; kernel_rfl
theorem fa_50_1 (ad : Addr) (w : World) : (Instr.fieldAt 50 (.pointer (some ad)) 1).run Try.prog w = .ok (.pointer (some (ad.add 1))) w := by cases ad; kernel_rfl
theorem fa_76_0 (ad : Addr) (w : World) : (Instr.fieldAt 76 (.pointer (some ad)) 0).run Try.prog w = .ok (.pointer (some (ad.add 0))) w := by cases ad; kernel_rfl
theorem fa_76_1 (ad : Addr) (w : World) : (Instr.fieldAt 76 (.pointer (some ad)) 1).run Try.prog w = .ok (.pointer (some (ad.add 1))) w := by cases ad; kernel_rfl
theorem fa_76_2 (ad : Addr) (w : World) : (Instr.fieldAt 76 (.pointer (some ad)) 2).run Try.prog w = .ok (.pointer (some (ad.add 2))) w := by cases ad; kernel_rfl
theorem fa_76_3 (ad : Addr) (w : World) : (Instr.fieldAt 76 (.pointer (some ad)) 3).run Try.prog w = .ok (.pointer (some (ad.add 3))) w := by cases ad; kernel_rfl
theorem fa_76_4 (ad : Addr) (w : World) : (Instr.fieldAt 76 (.pointer (some ad)) 4).run Try.prog w = .ok (.pointer (some (ad.add 4))) w := by cases ad; kernel_rfl
theorem fa_76_5 (ad : Addr) (w : World) : (Instr.fieldAt 76 (.pointer (some ad)) 5).run Try.prog w = .ok (.pointer (some (ad.add 5))) w := by cases ad; kernel_rfl
theorem bd_48_0_1_2 (x1 : ByteArray) (x2 : Int) (x3 : Int) {w : World} : (Instr.build 48 #[(0, .string x1), (1, .int .i64 x2), (2, .int .i64 x3)]).run Try.prog w = .ok (.agg #[.string x1, .int .i64 x2, .int .i64 x3, .slice none 0 0]) w := by kernel_rfl
theorem bd_48_0_1_2_3 (x1 : ByteArray) (x2 : Int) (x3 : Int) (x4a : Option Addr) (x4n x4c : Nat) {w : World} : (Instr.build 48 #[(0, .string x1), (1, .int .i64 x2), (2, .int .i64 x3), (3, .slice x4a x4n x4c)]).run Try.prog w = .ok (.agg #[.string x1, .int .i64 x2, .int .i64 x3, .slice x4a x4n x4c]) w := by kernel_rfl
theorem bd_50_0_1 (x1 : Int) (x2 : Int) {w : World} : (Instr.build 50 #[(0, .int .i64 x1), (1, .int .i64 x2)]).run Try.prog w = .ok (.agg #[.int .i64 x1, .int .i64 x2]) w := by kernel_rfl
theorem bd_65_  {w : World} : (Instr.build 65 #[]).run Try.prog w = .ok (.agg #[]) w := by kernel_rfl
theorem bd_76_0_1_2_3 (x1a : Option Addr) (x1n x1c : Nat) (x2a : Option Addr) (x2n x2c : Nat) (x3a : Option Addr) (x3n x3c : Nat) (x4a : Option Addr) (x4n x4c : Nat) {w : World} : (Instr.build 76 #[(0, .slice x1a x1n x1c), (1, .slice x2a x2n x2c), (2, .slice x3a x3n x3c), (3, .slice x4a x4n x4c)]).run Try.prog w = .ok (.agg #[.slice x1a x1n x1c, .slice x2a x2n x2c, .slice x3a x3n x3c, .slice x4a x4n x4c, .slice none 0 0, .int .i64 0]) w := by kernel_rfl
theorem bs_22_3_0_1_2 (x1 : ByteArray) (x2 : Int) (x3 : Int) (x4a : Option Addr) (x4n x4c : Nat) (x5 : ByteArray) (x6 : Int) (x7 : Int) (x8a : Option Addr) (x8n x8c : Nat) (x9 : ByteArray) (x10 : Int) (x11 : Int) (x12a : Option Addr) (x12n x12c : Nat) {w : World} : (Instr.buildSlice 22 3 #[(0, .agg #[.string x1, .int .i64 x2, .int .i64 x3, .slice x4a x4n x4c]), (1, .agg #[.string x5, .int .i64 x6, .int .i64 x7, .slice x8a x8n x8c]), (2, .agg #[.string x9, .int .i64 x10, .int .i64 x11, .slice x12a x12n x12c])]).run Try.prog w = .ok (.slice (some ⟨w.heap.size, 0, none⟩) 3 3) (w.alloc (.cells [.string x1, .int .i64 x2, .int .i64 x3, .slice x4a x4n x4c, .string x5, .int .i64 x6, .int .i64 x7, .slice x8a x8n x8c, .string x9, .int .i64 x10, .int .i64 x11, .slice x12a x12n x12c].toArray 48)) := by kernel_rfl
theorem bs_25_0_  {w : World} : (Instr.buildSlice 25 0 #[]).run Try.prog w = .ok (.slice (some ⟨w.heap.size, 0, none⟩) 0 0) (w.alloc (.cells [].toArray 2)) := by kernel_rfl
theorem bs_25_1_0 (x1 : Int) {w : World} : (Instr.buildSlice 25 1 #[(0, .int .i64 x1)]).run Try.prog w = .ok (.slice (some ⟨w.heap.size, 0, none⟩) 1 1) (w.alloc (.cells [.int .i64 x1].toArray 2)) := by kernel_rfl
theorem bs_25_3_0_1_2 (x1 : Int) (x2 : Int) (x3 : Int) {w : World} : (Instr.buildSlice 25 3 #[(0, .int .i64 x1), (1, .int .i64 x2), (2, .int .i64 x3)]).run Try.prog w = .ok (.slice (some ⟨w.heap.size, 0, none⟩) 3 3) (w.alloc (.cells [.int .i64 x1, .int .i64 x2, .int .i64 x3].toArray 2)) := by kernel_rfl
theorem bs_29_1_0 (x1 : Int) {w : World} : (Instr.buildSlice 29 1 #[(0, .int .i64 x1)]).run Try.prog w = .ok (.slice (some ⟨w.heap.size, 0, none⟩) 1 1) (w.alloc (.cells [.int .i64 x1].toArray 3)) := by kernel_rfl
theorem bs_29_2_0_1 (x1 : Int) (x2 : Int) {w : World} : (Instr.buildSlice 29 2 #[(0, .int .i64 x1), (1, .int .i64 x2)]).run Try.prog w = .ok (.slice (some ⟨w.heap.size, 0, none⟩) 2 2) (w.alloc (.cells [.int .i64 x1, .int .i64 x2].toArray 3)) := by kernel_rfl
theorem bs_29_6_0_1_2_3_4_5 (x1 : Int) (x2 : Int) (x3 : Int) (x4 : Int) (x5 : Int) (x6 : Int) {w : World} : (Instr.buildSlice 29 6 #[(0, .int .i64 x1), (1, .int .i64 x2), (2, .int .i64 x3), (3, .int .i64 x4), (4, .int .i64 x5), (5, .int .i64 x6)]).run Try.prog w = .ok (.slice (some ⟨w.heap.size, 0, none⟩) 6 6) (w.alloc (.cells [.int .i64 x1, .int .i64 x2, .int .i64 x3, .int .i64 x4, .int .i64 x5, .int .i64 x6].toArray 3)) := by kernel_rfl
theorem bs_46_1_0 (x1 : Int) (x2 : Int) {w : World} : (Instr.buildSlice 46 1 #[(0, .agg #[.int .i64 x1, .int .i64 x2])]).run Try.prog w = .ok (.slice (some ⟨w.heap.size, 0, none⟩) 1 1) (w.alloc (.cells [.int .i64 x1, .int .i64 x2].toArray 50)) := by kernel_rfl
end Go.Proofs.Ytafmcflggikbfaa
namespace Go.Proofs.Ytafmcflggikbfaa
open Go.Gv
open Go.RowKit
open Go.Sn
open Go.Wk
namespace Sx
theorem letter_or {c : Nat} (hc : c < 256) : (decide (97 ≤ c ||| 32) && decide (c ||| 32 ≤ 122)) = letterB c := letterB_or ⟨c, hc⟩
end Sx
open Sx
set_option maxRecDepth 100000 in
set_option maxHeartbeats 1000000 in
theorem letter_ok (c : Nat) (hc : c < 256) (w0 : World) : Sp Try.prog 64 [.int .u8 ((c : Nat) : Int)] w0 [] (RV (.bool (letterB c))) := by
  refine spec_enter Try.func64 rfl Try.ntmps64 rfl (Own.refl _) ?_
  simp only [argEnv]
  refine gc_seq <| gc_region <| gl_op <| op_rd rfl (rd_assign rfl) <| gl_nil <| gx_then <| gc_seq <| gc_region <| gl_op <| op_rd rfl (rd_move rfl) <| gl_op (op_rd rfl (rd_or8 (a := c) (b := 32) rfl rfl hc (by decide)) ?_)
  refine gl_op (op_rd rfl (rd_geq rfl rfl) (gk_dec (fun hd1 => ?_) (fun hd1 => ?_)))
  · refine gl_op <| op_rd rfl (rd_move rfl) <| gl_yes rfl rfl <| op_rd rfl (rd_move rfl) <| gl_yes rfl rfl (op_rd rfl (rd_or8 (a := c) (b := 32) rfl rfl hc (by decide)) ?_)
    refine gl_yes rfl rfl <| op_rd rfl (rd_leq rfl rfl) <| gl_op <| op_rd rfl (rd_pick_t rfl rfl) <| gl_op <| op_rd rfl (rd_assign rfl) <| gl_nil <| gx_then <| gc_ret <| gx_ret1 (.inl rfl) Try.results64 rfl [] (by decide) ?_
    refine ⟨congrArg Value.bool (Eq.symm ?_), rfl⟩
    rw [← letter_or hc]
    (rw [Bool.eq_iff_iff]; simp [*]; omega)
  refine gl_op <| op_rd rfl (rd_move rfl) <| gl_no rfl rfl rfl <| gl_no rfl rfl rfl <| gl_no rfl rfl rfl <| gl_op <| op_rd rfl (rd_pick_f rfl rfl) <| gl_op <| op_rd rfl (rd_assign rfl) <| gl_nil <| gx_then <| gc_ret <| gx_ret1 (.inl rfl) Try.results64 rfl [] (by decide) ?_
  refine ⟨congrArg Value.bool (Eq.symm ?_), rfl⟩
  rw [← letter_or hc]
  (simp [*]; omega)
set_option maxRecDepth 100000 in
set_option maxHeartbeats 1000000 in
theorem digit_ok (c : Nat) (w0 : World) : Sp Try.prog 65 [.int .u8 ((c : Nat) : Int)] w0 [] (RV (.bool (digitB c))) := by
  refine spec_enter Try.func65 rfl Try.ntmps65 rfl (Own.refl _) ?_
  simp only [argEnv]
  refine gc_seq <| gc_region <| gl_op <| op_rd rfl (rd_assign rfl) <| gl_nil <| gx_then <| gc_seq <| gc_region <| gl_op <| op_rd rfl (rd_move rfl) <| gl_op (op_rd rfl (rd_geq rfl rfl) (gk_dec (fun hd1 => ?_) (fun hd1 => ?_)))
  · refine gl_op <| op_rd rfl (rd_move rfl) <| gl_yes rfl rfl <| op_rd rfl (rd_move rfl) <| gl_yes rfl rfl <| op_rd rfl (rd_leq rfl rfl) <| gl_op <| op_rd rfl (rd_pick_t rfl rfl) <| gl_op <| op_rd rfl (rd_assign rfl) <| gl_nil <| gx_then <| gc_ret <| gx_ret1 (.inl rfl) Try.results65 rfl [] (by decide) ?_
    refine ⟨congrArg Value.bool (Eq.symm ?_), rfl⟩
    (rw [Bool.eq_iff_iff]; simp [digitB, *]; omega)
  refine gl_op <| op_rd rfl (rd_move rfl) <| gl_no rfl rfl rfl <| gl_no rfl rfl rfl <| gl_op <| op_rd rfl (rd_pick_f rfl rfl) <| gl_op <| op_rd rfl (rd_assign rfl) <| gl_nil <| gx_then <| gc_ret <| gx_ret1 (.inl rfl) Try.results65 rfl [] (by decide) ?_
  refine ⟨congrArg Value.bool (Eq.symm ?_), rfl⟩
  (simp [digitB, *]; omega)
set_option maxRecDepth 100000 in
set_option maxHeartbeats 1000000 in
theorem rletter_ok (c : Nat) (w0 : World) : Sp Try.prog 66 [.int .u8 ((c : Nat) : Int)] w0 [] (RV (.bool (letterB c))) := by
  refine spec_enter Try.func66 rfl Try.ntmps66 rfl (Own.refl _) ?_
  simp only [argEnv]
  refine gc_seq <| gc_region <| gl_op <| op_rd rfl (rd_assign rfl) <| gl_nil <| gx_then <| gc_seq <| gc_region <| gl_op <| op_rd rfl (rd_move rfl) <| gl_op (op_rd rfl (rd_geq rfl rfl) (gk_dec (fun hd1 => ?_) (fun hd1 => ?_)))
  · refine gl_op <| op_rd rfl (rd_move rfl) <| gl_yes rfl rfl <| op_rd rfl (rd_move rfl) <| gl_yes rfl rfl (op_rd rfl (rd_leq rfl rfl) (gk_dec (fun hd2 => ?_) (fun hd2 => ?_)))
    · refine gl_op <| op_rd rfl (rd_pick_t rfl rfl) <| gl_op <| op_rd rfl (rd_move rfl) <| gl_no rfl rfl rfl <| gl_no rfl rfl rfl <| gl_no rfl rfl rfl <| gl_noU rfl rfl rfl <| gl_noU rfl rfl rfl <| gl_no rfl rfl rfl <| gl_op <| op_rd rfl (rd_pick_t rfl rfl) <| gl_op <| op_rd rfl (rd_assign rfl) <| gl_nil <| gx_then <| gc_ret <| gx_ret1 (.inl rfl) Try.results66 rfl [] (by decide) ?_
      refine ⟨congrArg Value.bool (Eq.symm ?_), rfl⟩
      (simp [letterB, *]; omega)
    refine gl_op <| op_rd rfl (rd_pick_t rfl rfl) <| gl_op <| op_rd rfl (rd_move rfl) <| gl_yes rfl rfl <| op_rd rfl (rd_move rfl) <| gl_yes rfl rfl (op_rd rfl (rd_geq rfl rfl) (gk_dec (fun hd3 => ?_) (fun hd3 => ?_)))
    · refine gl_yes rfl rfl <| op_rd rfl (rd_move rfl) <| gl_yes rfl rfl <| op_rd rfl (rd_move rfl) <| gl_yes rfl rfl <| op_rd rfl (rd_leq rfl rfl) <| gl_yes rfl rfl <| op_rd rfl (rd_pick_t rfl rfl) <| gl_op <| op_rd rfl (rd_pick_f rfl rfl) <| gl_op <| op_rd rfl (rd_assign rfl) <| gl_nil <| gx_then <| gc_ret <| gx_ret1 (.inl rfl) Try.results66 rfl [] (by decide) ?_
      refine ⟨congrArg Value.bool (Eq.symm ?_), rfl⟩
      (rw [Bool.eq_iff_iff]; simp [letterB, *]; omega)
    refine gl_yes rfl rfl <| op_rd rfl (rd_move rfl) <| gl_no rfl rfl rfl <| gl_no rfl rfl rfl <| gl_yes rfl rfl <| op_rd rfl (rd_pick_f rfl rfl) <| gl_op <| op_rd rfl (rd_pick_f rfl rfl) <| gl_op <| op_rd rfl (rd_assign rfl) <| gl_nil <| gx_then <| gc_ret <| gx_ret1 (.inl rfl) Try.results66 rfl [] (by decide) ?_
    refine ⟨congrArg Value.bool (Eq.symm ?_), rfl⟩
    (simp [letterB, *]; omega)
  refine gl_op <| op_rd rfl (rd_move rfl) <| gl_no rfl rfl rfl <| gl_no rfl rfl rfl <| gl_op <| op_rd rfl (rd_pick_f rfl rfl) <| gl_op <| op_rd rfl (rd_move rfl) <| gl_yes rfl rfl <| op_rd rfl (rd_move rfl) <| gl_yes rfl rfl (op_rd rfl (rd_geq rfl rfl) (gk_dec (fun hd4 => ?_) (fun hd4 => ?_)))
  · refine gl_yes rfl rfl <| op_rd rfl (rd_move rfl) <| gl_yes rfl rfl <| op_rd rfl (rd_move rfl) <| gl_yes rfl rfl <| op_rd rfl (rd_leq rfl rfl) <| gl_yes rfl rfl <| op_rd rfl (rd_pick_t rfl rfl) <| gl_op <| op_rd rfl (rd_pick_f rfl rfl) <| gl_op <| op_rd rfl (rd_assign rfl) <| gl_nil <| gx_then <| gc_ret <| gx_ret1 (.inl rfl) Try.results66 rfl [] (by decide) ?_
    refine ⟨congrArg Value.bool (Eq.symm ?_), rfl⟩
    (rw [Bool.eq_iff_iff]; simp [letterB, *]; omega)
  refine gl_yes rfl rfl <| op_rd rfl (rd_move rfl) <| gl_no rfl rfl rfl <| gl_no rfl rfl rfl <| gl_yes rfl rfl <| op_rd rfl (rd_pick_f rfl rfl) <| gl_op <| op_rd rfl (rd_pick_f rfl rfl) <| gl_op <| op_rd rfl (rd_assign rfl) <| gl_nil <| gx_then <| gc_ret <| gx_ret1 (.inl rfl) Try.results66 rfl [] (by decide) ?_
  refine ⟨congrArg Value.bool (Eq.symm ?_), rfl⟩
  (simp [letterB, *]; omega)
set_option maxRecDepth 100000 in
set_option maxHeartbeats 1000000 in
theorem rdigit_ok (c : Nat) (w0 : World) : Sp Try.prog 67 [.int .u8 ((c : Nat) : Int)] w0 [] (RV (.bool (digitB c))) := by
  refine spec_enter Try.func67 rfl Try.ntmps67 rfl (Own.refl _) ?_
  simp only [argEnv]
  refine gc_seq <| gc_region <| gl_op <| op_rd rfl (rd_assign rfl) <| gl_nil <| gx_then <| gc_seq <| gc_region <| gl_op <| op_rd rfl (rd_move rfl) <| gl_op (op_rd rfl (rd_geq rfl rfl) (gk_dec (fun hd1 => ?_) (fun hd1 => ?_)))
  · refine gl_op <| op_rd rfl (rd_move rfl) <| gl_yes rfl rfl <| op_rd rfl (rd_move rfl) <| gl_yes rfl rfl <| op_rd rfl (rd_leq rfl rfl) <| gl_op <| op_rd rfl (rd_pick_t rfl rfl) <| gl_op <| op_rd rfl (rd_assign rfl) <| gl_nil <| gx_then <| gc_ret <| gx_ret1 (.inl rfl) Try.results67 rfl [] (by decide) ?_
    refine ⟨congrArg Value.bool (Eq.symm ?_), rfl⟩
    (rw [Bool.eq_iff_iff]; simp [digitB, *]; omega)
  refine gl_op <| op_rd rfl (rd_move rfl) <| gl_no rfl rfl rfl <| gl_no rfl rfl rfl <| gl_op <| op_rd rfl (rd_pick_f rfl rfl) <| gl_op <| op_rd rfl (rd_assign rfl) <| gl_nil <| gx_then <| gc_ret <| gx_ret1 (.inl rfl) Try.results67 rfl [] (by decide) ?_
  refine ⟨congrArg Value.bool (Eq.symm ?_), rfl⟩
  (simp [digitB, *]; omega)
set_option maxRecDepth 100000 in
set_option maxHeartbeats 1000000 in
theorem Name_ok (s : ByteArray) (hs : s.size ≤ 140737488355328) (w0 : World) : Sp Try.prog 50 [.string s] w0 [] (RV (.bool (nameB s))) := by
  refine spec_enter Try.func50 rfl Try.ntmps50 rfl (Own.refl _) ?_
  simp only [argEnv]
  refine gc_seq <| gc_region <| gl_op <| op_rd rfl (rd_assign rfl) <| gl_nil <| gx_then <| gc_seq <| gc_seq <| gc_region <| gl_op <| op_rd rfl (rd_move rfl) <| gl_op <| op_rd rfl (rd_lenString Try.underlying9 rfl) <| gl_op <| op_rd rfl (rd_move rfl) <| gl_nil <| gx_then <| gc_block <| gc_loopF (ι := Nat) [(0, _), (6, _)] [] (fun k => k ≤ s.size ∧ ∀ i, i < k → okAt s i = true) (fun k Fr0 => ((7, natV k) :: Fr0)) (fun k Fr0 => Fr0) (fun k => s.size - k) 0 (⟨Nat.zero_le _, fun i hi => absurd hi (Nat.not_lt_zero i)⟩) ⟨rfl, rfl, rfl, trivial⟩ ⟨[], by decide, rfl⟩ ?_
  rintro k ⟨hk, hall⟩
  refine gc_seq <| gc_region <| gl_op (op_rd rfl (rd_lss rfl rfl) (gk_dec (fun h8 => ?_) (fun h8 => ?_)))
  · refine gl_nil <| gx_then <| gc_seq <| gc_cond_t rfl <| gc_skip <| gx_then <| gc_seq <| gc_block <| gc_seq <| gc_region <| gl_op <| op_rd rfl (rd_move rfl) <| gl_op <| op_rd rfl (rd_assign rfl) <| gl_nil <| gx_then <| gc_seq <| gc_region <| gl_op <| op_rd rfl (rd_move rfl) <| gl_op <| op_rd rfl (rd_move rfl) <| gl_op (op_rd rfl (rd_indexStr Try.underlying9 rfl rfl (byteAt_get s k (by omega))) ?_)
    refine gl_op <| op_rd rfl (rd_assign rfl) <| gl_nil <| gx_then <| gc_seq <| gc_region <| gl_op <| op_rd rfl (rd_move rfl) <| gl_op (op_call rfl (vf := []) (vc := []) rfl rfl Try.call64 (fun w1 ho => letter_ok (byteAt s k) (byteAt_lt s k) w1) ?_)
    rintro _ _ ⟨rfl, rfl⟩
    refine gk_bool (fun hl => ?_) (fun hl => ?_)
    · refine gl_op <| op_rd rfl (rd_not rfl) <| gl_op <| op_rd rfl (rd_move rfl) <| gl_no rfl rfl rfl <| gl_no rfl rfl rfl <| gl_no rfl rfl rfl <| gl_noU rfl rfl rfl <| gl_noU rfl rfl rfl <| gl_noU rfl rfl rfl <| gl_noU rfl rfl rfl <| gl_noU rfl rfl rfl <| gl_noU rfl rfl rfl <| gl_noU rfl rfl rfl <| gl_no rfl rfl rfl <| gl_op <| op_rd rfl (rd_pick_f rfl rfl) <| gl_nil <| gx_then <| gc_cond_f rfl <| gc_skip <| gx_block <| gx_then <| gc_region <| gl_op (op_rd rfl (by exact rd_addN (b := 1) rfl rfl (by omega)) ?_)
      refine gl_op <| op_rd rfl (rd_move rfl) <| gl_nil <| gx_then ?_
      exact gx_cut (k + 1) ⟨⟨by omega, fun i hi => by
        rcases Nat.lt_or_eq_of_le (Nat.le_of_lt_succ hi) with h | rfl
        · exact hall i h
        · simp [okAt, *]⟩, by omega⟩ ⟨rfl, rfl, rfl, trivial⟩ ⟨[], by decide, rfl⟩
    refine gl_op <| op_rd rfl (rd_not rfl) <| gl_op <| op_rd rfl (rd_move rfl) <| gl_yes rfl rfl <| op_rd rfl (rd_move rfl) <| gl_yes rfl rfl (op_rd rfl (rd_eql rfl rfl) (gk_dec (fun h18 => ?_) (fun h18 => ?_)))
    · replace h18 : k = 0 := by omega
      refine gl_yes rfl rfl <| op_rd rfl (rd_move rfl) <| gl_no rfl rfl rfl <| gl_no rfl rfl rfl <| gl_no rfl rfl rfl <| gl_noU rfl rfl rfl <| gl_noU rfl rfl rfl <| gl_noU rfl rfl rfl <| gl_no rfl rfl rfl <| gl_yes rfl rfl <| op_rd rfl (rd_pick_t rfl rfl) <| gl_op <| op_rd rfl (rd_pick_t rfl rfl) <| gl_nil <| gx_then <| gc_cond_t rfl <| gc_seq <| gc_region <| gl_op <| op_rd rfl (rd_assign rfl) <| gl_nil <| gx_then <| gc_ret <| gx_block_ret <| gx_then_ret <| gx_then_ret <| gx_block_ret <| gx_then_ret <| gx_ret1 (.inl rfl) Try.results50 rfl [] (by decide) ?_
      refine ⟨congrArg Value.bool (Eq.symm ?_), rfl⟩
      exact nameB_no (i := k) (by omega) (by (subst h18; simp [okAt, hl]; done))
    replace h18 : k ≠ 0 := by omega
    refine gl_yes rfl rfl <| op_rd rfl (rd_move rfl) <| gl_yes rfl rfl <| op_rd rfl (rd_move rfl) <| gl_yes rfl rfl (op_rd rfl (rd_neq rfl rfl) (gk_dec (fun h21 => ?_) (fun h21 => ?_)))
    · replace h21 : byteAt s k ≠ 95 := by unfold byteAt; omega
      refine gl_yes rfl rfl <| op_rd rfl (rd_move rfl) <| gl_yes rfl rfl <| op_rd rfl (rd_move rfl) <| gl_yes rfl rfl (op_call rfl (vf := []) (vc := []) rfl rfl Try.call65 (fun w1 ho => digit_ok (byteAt s k) w1) ?_)
      rintro _ _ ⟨rfl, rfl⟩
      refine gk_bool (fun hdg => ?_) (fun hdg => ?_)
      · refine gl_yes rfl rfl <| op_rd rfl (rd_not rfl) <| gl_yes rfl rfl <| op_rd rfl (rd_pick_t rfl rfl) <| gl_yes rfl rfl <| op_rd rfl (rd_pick_f rfl rfl) <| gl_op <| op_rd rfl (rd_pick_t rfl rfl) <| gl_nil <| gx_then <| gc_cond_f rfl <| gc_skip <| gx_block <| gx_then <| gc_region <| gl_op (op_rd rfl (by exact rd_addN (b := 1) rfl rfl (by omega)) ?_)
        refine gl_op <| op_rd rfl (rd_move rfl) <| gl_nil <| gx_then ?_
        exact gx_cut (k + 1) ⟨⟨by omega, fun i hi => by
          rcases Nat.lt_or_eq_of_le (Nat.le_of_lt_succ hi) with h | rfl
          · exact hall i h
          · simp [okAt, *]⟩, by omega⟩ ⟨rfl, rfl, rfl, trivial⟩ ⟨[], by decide, rfl⟩
      refine gl_yes rfl rfl <| op_rd rfl (rd_not rfl) <| gl_yes rfl rfl <| op_rd rfl (rd_pick_t rfl rfl) <| gl_yes rfl rfl <| op_rd rfl (rd_pick_f rfl rfl) <| gl_op <| op_rd rfl (rd_pick_t rfl rfl) <| gl_nil <| gx_then <| gc_cond_t rfl <| gc_seq <| gc_region <| gl_op <| op_rd rfl (rd_assign rfl) <| gl_nil <| gx_then <| gc_ret <| gx_block_ret <| gx_then_ret <| gx_then_ret <| gx_block_ret <| gx_then_ret <| gx_ret1 (.inl rfl) Try.results50 rfl [] (by decide) ?_
      refine ⟨congrArg Value.bool (Eq.symm ?_), rfl⟩
      exact nameB_no (i := k) (by omega) (by simp [okAt, *])
    replace h21 : byteAt s k = 95 := by unfold byteAt; omega
    refine gl_yes rfl rfl <| op_rd rfl (rd_move rfl) <| gl_no rfl rfl rfl <| gl_no rfl rfl rfl <| gl_no rfl rfl rfl <| gl_yes rfl rfl <| op_rd rfl (rd_pick_f rfl rfl) <| gl_yes rfl rfl <| op_rd rfl (rd_pick_f rfl rfl) <| gl_op <| op_rd rfl (rd_pick_t rfl rfl) <| gl_nil <| gx_then <| gc_cond_f rfl <| gc_skip <| gx_block <| gx_then <| gc_region <| gl_op (op_rd rfl (by exact rd_addN (b := 1) rfl rfl (by omega)) ?_)
    refine gl_op <| op_rd rfl (rd_move rfl) <| gl_nil <| gx_then ?_
    exact gx_cut (k + 1) ⟨⟨by omega, fun i hi => by
      rcases Nat.lt_or_eq_of_le (Nat.le_of_lt_succ hi) with h | rfl
      · exact hall i h
      · simp [okAt, *]⟩, by omega⟩ ⟨rfl, rfl, rfl, trivial⟩ ⟨[], by decide, rfl⟩
  refine gl_nil <| gx_then <| gc_seq <| gc_cond_f rfl <| gc_exit <| gx_then_exit <| gx_then_exit <| gx_block_exit <| gx_then <| gc_seq <| gc_region <| gl_op <| op_rd rfl (rd_move rfl) <| gl_op <| op_rd rfl (rd_lenString Try.underlying9 rfl) <| gl_op (op_rd rfl (rd_geq rfl rfl) (gk_dec (fun hd1 => ?_) (fun hd1 => ?_)))
  · refine gl_op <| op_rd rfl (rd_move rfl) <| gl_yes rfl rfl <| op_rd rfl (rd_move rfl) <| gl_yes rfl rfl <| op_rd rfl (rd_lenString Try.underlying9 rfl) <| gl_yes rfl rfl <| op_rd rfl (rd_leq rfl rfl) <| gl_op <| op_rd rfl (rd_pick_t rfl rfl) <| gl_op <| op_rd rfl (rd_assign rfl) <| gl_nil <| gx_then <| gc_ret <| gx_ret1 (.inl rfl) Try.results50 rfl [] (by decide) ?_
    refine ⟨congrArg Value.bool (Eq.symm ?_), rfl⟩
    rw [nameB_all (fun i hi => hall i (by omega))]
    (rw [Bool.eq_iff_iff]; simp; omega)
  refine gl_op <| op_rd rfl (rd_move rfl) <| gl_no rfl rfl rfl <| gl_no rfl rfl rfl <| gl_no rfl rfl rfl <| gl_op <| op_rd rfl (rd_pick_f rfl rfl) <| gl_op <| op_rd rfl (rd_assign rfl) <| gl_nil <| gx_then <| gc_ret <| gx_ret1 (.inl rfl) Try.results50 rfl [] (by decide) ?_
  refine ⟨congrArg Value.bool (Eq.symm ?_), rfl⟩
  rw [nameB_all (fun i hi => hall i (by omega))]
  (simp; omega)
set_option maxRecDepth 100000 in
set_option maxHeartbeats 1000000 in
theorem rName_ok (s : ByteArray) (hs : s.size ≤ 140737488355328) (w0 : World) : Sp Try.prog 51 [.string s] w0 [] (RV (.bool (nameB s))) := by
  refine spec_enter Try.func51 rfl Try.ntmps51 rfl (Own.refl _) ?_
  simp only [argEnv]
  refine gc_seq <| gc_region <| gl_op <| op_rd rfl (rd_assign rfl) <| gl_nil <| gx_then <| gc_seq <| gc_seq <| gc_region <| gl_op <| op_rd rfl (rd_move rfl) <| gl_op <| op_rd rfl (rd_lenString Try.underlying9 rfl) <| gl_op (op_rd rfl (rd_lss rfl rfl) (gk_dec (fun h6 => ?_) (fun h6 => ?_)))
  · refine gl_op <| op_rd rfl (rd_move rfl) <| gl_no rfl rfl rfl <| gl_no rfl rfl rfl <| gl_no rfl rfl rfl <| gl_op <| op_rd rfl (rd_pick_t rfl rfl) <| gl_op <| op_rd rfl (rd_move rfl) <| gl_no rfl rfl rfl <| gl_no rfl rfl rfl <| gl_no rfl rfl rfl <| gl_no rfl rfl rfl <| gl_op <| op_rd rfl (rd_pick_t rfl rfl) <| gl_nil <| gx_then <| gc_cond_t rfl <| gc_seq <| gc_region <| gl_op <| op_rd rfl (rd_assign rfl) <| gl_nil <| gx_then <| gc_ret <| gx_then_ret <| gx_ret1 (.inl rfl) Try.results51 rfl [] (by decide) ?_
    refine ⟨congrArg Value.bool (Eq.symm ?_), rfl⟩
    unfold nameB; simp; omega
  refine gl_op <| op_rd rfl (rd_move rfl) <| gl_yes rfl rfl <| op_rd rfl (rd_move rfl) <| gl_yes rfl rfl <| op_rd rfl (rd_lenString Try.underlying9 rfl) <| gl_yes rfl rfl (op_rd rfl (rd_gtr rfl rfl) (gk_dec (fun h10 => ?_) (fun h10 => ?_)))
  · refine gl_op <| op_rd rfl (rd_pick_f rfl rfl) <| gl_op <| op_rd rfl (rd_move rfl) <| gl_no rfl rfl rfl <| gl_no rfl rfl rfl <| gl_no rfl rfl rfl <| gl_no rfl rfl rfl <| gl_op <| op_rd rfl (rd_pick_t rfl rfl) <| gl_nil <| gx_then <| gc_cond_t rfl <| gc_seq <| gc_region <| gl_op <| op_rd rfl (rd_assign rfl) <| gl_nil <| gx_then <| gc_ret <| gx_then_ret <| gx_ret1 (.inl rfl) Try.results51 rfl [] (by decide) ?_
    refine ⟨congrArg Value.bool (Eq.symm ?_), rfl⟩
    unfold nameB; simp; omega
  refine gl_op <| op_rd rfl (rd_pick_f rfl rfl) <| gl_op <| op_rd rfl (rd_move rfl) <| gl_yes rfl rfl <| op_rd rfl (rd_move rfl) <| gl_yes rfl rfl (op_rd rfl (rd_indexStr Try.underlying9 rfl rfl (byteAt_get s 0 (by omega))) ?_)
  refine gl_yes rfl rfl (op_call rfl (vf := []) (vc := []) rfl rfl Try.call66 (fun w1 ho => rletter_ok (byteAt s 0) w1) ?_)
  rintro _ _ ⟨rfl, rfl⟩
  refine gk_bool (fun hl0 => ?_) (fun hl0 => ?_)
  · refine gl_yes rfl rfl <| op_rd rfl (rd_not rfl) <| gl_op <| op_rd rfl (rd_pick_f rfl rfl) <| gl_nil <| gx_then <| gc_cond_f rfl <| gc_skip <| gx_then <| gc_seq <| gc_seq <| gc_region <| gl_op <| op_rd rfl (rd_assign rfl) <| gl_nil <| gx_then <| gc_block <| gc_loopF (ι := Nat) [(0, _)] [] (fun k => k ≤ s.size ∧ ∀ i, i < k → okAt s i = true) (fun k Fr0 => ((3, natV k) :: Fr0)) (fun k Fr0 => Fr0) (fun k => s.size - k) 0 (⟨Nat.zero_le _, fun i hi => absurd hi (Nat.not_lt_zero i)⟩) ⟨rfl, rfl, trivial⟩ ⟨[], by decide, rfl⟩ ?_
    rintro k ⟨hk, hall⟩
    refine gc_seq <| gc_seq <| gc_region <| gl_op <| op_rd rfl (rd_move rfl) <| gl_op <| op_rd rfl (rd_move rfl) <| gl_op <| op_rd rfl (rd_lenString Try.underlying9 rfl) <| gl_op (op_rd rfl (rd_lss rfl rfl) (gk_dec (fun h21 => ?_) (fun h21 => ?_)))
    · refine gl_nil <| gx_then <| gc_cond_t rfl <| gc_skip <| gx_then <| gc_seq <| gc_block <| gc_seq <| gc_region <| gl_op <| op_rd rfl (rd_move rfl) <| gl_op <| op_rd rfl (rd_move rfl) <| gl_op (op_rd rfl (rd_indexStr Try.underlying9 rfl rfl (byteAt_get s k (by omega))) ?_)
      refine gl_op (op_call rfl (vf := []) (vc := []) rfl rfl Try.call66 (fun w1 ho => rletter_ok (byteAt s k) w1) ?_)
      rintro _ _ ⟨rfl, rfl⟩
      refine gk_bool (fun hl => ?_) (fun hl => ?_)
      · refine gl_op <| op_rd rfl (rd_not rfl) <| gl_op <| op_rd rfl (rd_move rfl) <| gl_no rfl rfl rfl <| gl_no rfl rfl rfl <| gl_no rfl rfl rfl <| gl_no rfl rfl rfl <| gl_no rfl rfl rfl <| gl_op <| op_rd rfl (rd_pick_f rfl rfl) <| gl_op <| op_rd rfl (rd_move rfl) <| gl_no rfl rfl rfl <| gl_no rfl rfl rfl <| gl_no rfl rfl rfl <| gl_no rfl rfl rfl <| gl_op <| op_rd rfl (rd_pick_f rfl rfl) <| gl_nil <| gx_then <| gc_cond_f rfl <| gc_skip <| gx_block <| gx_then <| gc_region <| gl_op <| op_rd rfl (rd_move rfl) <| gl_op (op_rd rfl (by exact rd_addN (b := 1) rfl rfl (by omega)) ?_)
        refine gl_op <| op_rd rfl (rd_assign rfl) <| gl_nil <| gx_then ?_
        exact gx_cut (k + 1) ⟨⟨by omega, fun i hi => by
          rcases Nat.lt_or_eq_of_le (Nat.le_of_lt_succ hi) with h | rfl
          · exact hall i h
          · rcases Nat.eq_zero_or_pos i with hi0 | hi0
            · subst hi0; unfold okAt; rw [hl0]; rfl
            · have hi1 : i ≠ 0 := by omega
              simp [okAt, *]⟩, by omega⟩ ⟨rfl, rfl, trivial⟩ ⟨[], by decide, rfl⟩
      refine gl_op <| op_rd rfl (rd_not rfl) <| gl_op <| op_rd rfl (rd_move rfl) <| gl_yes rfl rfl <| op_rd rfl (rd_move rfl) <| gl_yes rfl rfl <| op_rd rfl (rd_move rfl) <| gl_yes rfl rfl (op_rd rfl (rd_indexStr Try.underlying9 rfl rfl (byteAt_get s k (by omega))) ?_)
      refine gl_yes rfl rfl (op_call rfl (vf := []) (vc := []) rfl rfl Try.call67 (fun w1 ho => rdigit_ok (byteAt s k) w1) ?_)
      rintro _ _ ⟨rfl, rfl⟩
      refine gk_bool (fun hdg => ?_) (fun hdg => ?_)
      · refine gl_yes rfl rfl <| op_rd rfl (rd_not rfl) <| gl_op <| op_rd rfl (rd_pick_t rfl rfl) <| gl_op <| op_rd rfl (rd_move rfl) <| gl_no rfl rfl rfl <| gl_no rfl rfl rfl <| gl_no rfl rfl rfl <| gl_no rfl rfl rfl <| gl_op <| op_rd rfl (rd_pick_f rfl rfl) <| gl_nil <| gx_then <| gc_cond_f rfl <| gc_skip <| gx_block <| gx_then <| gc_region <| gl_op <| op_rd rfl (rd_move rfl) <| gl_op (op_rd rfl (by exact rd_addN (b := 1) rfl rfl (by omega)) ?_)
        refine gl_op <| op_rd rfl (rd_assign rfl) <| gl_nil <| gx_then ?_
        exact gx_cut (k + 1) ⟨⟨by omega, fun i hi => by
          rcases Nat.lt_or_eq_of_le (Nat.le_of_lt_succ hi) with h | rfl
          · exact hall i h
          · rcases Nat.eq_zero_or_pos i with hi0 | hi0
            · subst hi0; unfold okAt; rw [hl0]; rfl
            · have hi1 : i ≠ 0 := by omega
              simp [okAt, *]⟩, by omega⟩ ⟨rfl, rfl, trivial⟩ ⟨[], by decide, rfl⟩
      refine gl_yes rfl rfl <| op_rd rfl (rd_not rfl) <| gl_op <| op_rd rfl (rd_pick_t rfl rfl) <| gl_op <| op_rd rfl (rd_move rfl) <| gl_yes rfl rfl <| op_rd rfl (rd_move rfl) <| gl_yes rfl rfl <| op_rd rfl (rd_move rfl) <| gl_yes rfl rfl (op_rd rfl (rd_indexStr Try.underlying9 rfl rfl (byteAt_get s k (by omega))) ?_)
      refine gl_yes rfl rfl (op_rd rfl (rd_neq rfl rfl) (gk_dec (fun h40 => ?_) (fun h40 => ?_)))
      · replace h40 : byteAt s k ≠ 95 := by unfold byteAt; omega
        refine gl_op <| op_rd rfl (rd_pick_t rfl rfl) <| gl_nil <| gx_then <| gc_cond_t rfl <| gc_seq <| gc_region <| gl_op <| op_rd rfl (rd_assign rfl) <| gl_nil <| gx_then <| gc_ret <| gx_block_ret <| gx_then_ret <| gx_then_ret <| gx_block_ret <| gx_then_ret <| gx_ret1 (.inl rfl) Try.results51 rfl [] (by decide) ?_
        refine ⟨congrArg Value.bool (Eq.symm ?_), rfl⟩
        have hk0 : k ≠ 0 := fun e => by subst e; simp_all
        exact nameB_no (i := k) (by omega) (by simp [okAt, *])
      replace h40 : byteAt s k = 95 := by unfold byteAt; omega
      refine gl_op <| op_rd rfl (rd_pick_t rfl rfl) <| gl_nil <| gx_then <| gc_cond_f rfl <| gc_skip <| gx_block <| gx_then <| gc_region <| gl_op <| op_rd rfl (rd_move rfl) <| gl_op (op_rd rfl (by exact rd_addN (b := 1) rfl rfl (by omega)) ?_)
      refine gl_op <| op_rd rfl (rd_assign rfl) <| gl_nil <| gx_then ?_
      exact gx_cut (k + 1) ⟨⟨by omega, fun i hi => by
        rcases Nat.lt_or_eq_of_le (Nat.le_of_lt_succ hi) with h | rfl
        · exact hall i h
        · rcases Nat.eq_zero_or_pos i with hi0 | hi0
          · subst hi0; unfold okAt; rw [hl0]; rfl
          · have hi1 : i ≠ 0 := by omega
            simp [okAt, *]⟩, by omega⟩ ⟨rfl, rfl, trivial⟩ ⟨[], by decide, rfl⟩
    refine gl_nil <| gx_then <| gc_cond_f rfl <| gc_exit <| gx_then_exit <| gx_then_exit <| gx_block_exit <| gx_then <| gc_seq <| gc_region <| gl_op <| op_rd rfl (rd_assign rfl) <| gl_nil <| gx_then <| gc_ret <| gx_ret1 (.inl rfl) Try.results51 rfl [] (by decide) ?_
    refine ⟨congrArg Value.bool (Eq.symm ?_), rfl⟩
    rw [nameB_all (fun i hi => hall i (by omega))]
    simp; omega
  refine gl_yes rfl rfl <| op_rd rfl (rd_not rfl) <| gl_op <| op_rd rfl (rd_pick_f rfl rfl) <| gl_nil <| gx_then <| gc_cond_t rfl <| gc_seq <| gc_region <| gl_op <| op_rd rfl (rd_assign rfl) <| gl_nil <| gx_then <| gc_ret <| gx_then_ret <| gx_ret1 (.inl rfl) Try.results51 rfl [] (by decide) ?_
  refine ⟨congrArg Value.bool (Eq.symm ?_), rfl⟩
  exact nameB_no (i := 0) (by omega) (by simp [okAt, *])
end Go.Proofs.Ytafmcflggikbfaa
namespace Go.Proofs.Ytafmcflggikbfaa
open Go.Gv
open Go.RowKit
open Go.Sn
open Go.Wk
namespace Sx
def inB (n a b : Int) : Bool := decide (a ≤ n) && decide (n ≤ b)
def vldP (n i : Nat) (x : JI) (k : Nat) : Bool := headB x && (List.range k).all (lagAt n i x.after)
theorem vldP_next {n i : Nat} {x : JI} {k : Nat} : vldP n i x (k + 1) = (vldP n i x k && lagAt n i x.after k) := by
  unfold vldP
  rw [List.range_succ, List.all_append, Bool.and_assoc]; simp
theorem head_eq (x : JI) : headB x = (nameB x.name && inB x.bench 0 5 && inB x.hours 1 1000) := by
  unfold headB inB; simp only [Bool.and_assoc]
theorem lag_eq {n i k : Nat} {ls : List (Int × Int)} {y : Int × Int} (hn : 0 < n) (hy : ls[k]? = some y) : lagAt n i ls k = (inB y.1 0 ((n - 1 : Nat) : Int) && decide (y.1 ≠ (i : Int)) && inB y.2 0 1000 && (decide (k = 0) || decide ((ls.getD (k - 1) default).1 < y.1))) := by
  unfold lagAt inB
  rw [show ((n - 1 : Nat) : Int) = (n : Int) - 1 by omega]
  rw [List.getD_eq_getElem?_getD, hy]
  simp only [Option.getD_some, Bool.and_assoc]
theorem vldP_zero {n i : Nat} {x : JI} : vldP n i x 0 = headB x := by simp [vldP]
end Sx
open Sx
set_option maxRecDepth 100000 in
set_option maxHeartbeats 1000000 in
theorem in_ok (n a b : Int) (w0 : World) : Sp Try.prog 40 [.int .i64 n, .int .i64 a, .int .i64 b] w0 [] (RV (.bool (inB n a b))) := by
  refine spec_enter Try.func40 rfl Try.ntmps40 rfl (Own.refl _) ?_
  simp only [argEnv]
  refine gc_seq <| gc_region <| gl_op <| op_rd rfl (rd_assign rfl) <| gl_nil <| gx_then <| gc_seq <| gc_region <| gl_op <| op_rd rfl (rd_move rfl) <| gl_op <| op_rd rfl (rd_move rfl) <| gl_op (op_rd rfl (rd_geq rfl rfl) (gk_dec (fun hd1 => ?_) (fun hd1 => ?_)))
  · refine gl_op <| op_rd rfl (rd_move rfl) <| gl_yes rfl rfl <| op_rd rfl (rd_move rfl) <| gl_yes rfl rfl <| op_rd rfl (rd_move rfl) <| gl_yes rfl rfl <| op_rd rfl (rd_leq rfl rfl) <| gl_op <| op_rd rfl (rd_pick_t rfl rfl) <| gl_op <| op_rd rfl (rd_assign rfl) <| gl_nil <| gx_then <| gc_ret <| gx_ret1 (.inl rfl) Try.results40 rfl [] (by decide) ?_
    refine ⟨congrArg Value.bool (Eq.symm ?_), rfl⟩
    (simp [inB, *]; done)
  refine gl_op <| op_rd rfl (rd_move rfl) <| gl_no rfl rfl rfl <| gl_no rfl rfl rfl <| gl_no rfl rfl rfl <| gl_op <| op_rd rfl (rd_pick_f rfl rfl) <| gl_op <| op_rd rfl (rd_assign rfl) <| gl_nil <| gx_then <| gc_ret <| gx_ret1 (.inl rfl) Try.results40 rfl [] (by decide) ?_
  refine ⟨congrArg Value.bool (Eq.symm ?_), rfl⟩
  (simp [inB, *]; done)
set_option maxRecDepth 100000 in
set_option maxHeartbeats 1000000 in
theorem valid_ok (a : Option Addr) (c : Nat) (l : List JI) (hle : JsLe l) (w0 : World) (hJ : JsIn a l w0 []) (i : Nat) (x : JI) (hx : l[i]? = some x) : Sp Try.prog 34 [.slice a l.length c, natV i] w0 [] (RV (.bool (validB l.length i x))) := by
  have hil := (List.getElem?_eq_some_iff.1 hx).1
  have hln := hle.t
  have hla := hle.r x (List.mem_of_getElem? hx)
  refine spec_enter Try.func34 rfl Try.ntmps34 rfl (Own.refl _) ?_
  simp only [argEnv]
  refine gc_seq <| gc_region <| gl_op <| op_rd rfl (rd_assign rfl) <| gl_nil <| gx_then <| gc_seq <| gc_region <| gl_op <| op_rd rfl (rd_move rfl) <| gl_op <| op_rd rfl (rd_move rfl) <| gl_op (op_rd rfl (rd_indexOld hJ.t Try.underlying22 ty_48 rfl rfl (by omega) (by omega)) ?_)
  refine gl_op (op_rd rfl (rd_loadAgg Try.underlying48 rfl ty_48 rfl (cs_slN hJ.t (flat_drop_get JI.cells 4 (fun _ => rfl) hx)) rfl) ?_)
  refine gl_op (op_alloc ty_48 rfl rfl (fun b5 => ?_))
  refine gl_op (op_storeAgg 0 ty_48 rfl rfl rfl rfl rfl rfl (by rfl) ?_)
  refine gl_nil <| gx_then <| gc_seq <| gc_cutF (ι := Bool) [(0, _), (1, _), (4, _), (5, _)] [_] (fun q => q = headB x) (fun q Fr0 => ((6, .bool q) :: Fr0)) (fun q Fr0 => Fr0) ⟨rfl, rfl, rfl, rfl, trivial⟩ ⟨[0], by decide, rfl⟩ ?_ ?_
  · refine gc_region <| gl_op <| op_rd rfl (rd_fieldAddr rfl (fa_48_0 _)) <| gl_op (op_rd rfl (rd_load Try.underlying9 rfl rfl (by exact ld_blk 0 rfl rfl)) ?_)
    refine gl_op (op_call rfl (vf := []) (vc := []) rfl rfl Try.call50 (fun w1 ho => Name_ok x.name (hle.n x (List.mem_of_getElem? hx)) w1) ?_)
    rintro _ _ ⟨rfl, rfl⟩
    refine gk_bool (fun hn => ?_) (fun hn => ?_)
    · refine gl_op <| op_rd rfl (rd_move rfl) <| gl_yes rfl rfl <| op_rd rfl (rd_fieldAddr rfl (fa_48_1 _)) <| gl_yes rfl rfl (op_rd rfl (rd_load Try.underlying3 rfl rfl (by exact ld_blk 0 rfl rfl)) ?_)
      refine gl_yes rfl rfl (op_call rfl (vf := []) (vc := []) rfl rfl Try.call40 (fun w1 ho => in_ok _ _ _ w1) ?_)
      rintro _ _ ⟨rfl, rfl⟩
      refine gk_bool (fun hi19 => ?_) (fun hi19 => ?_)
      · refine gl_op <| op_rd rfl (rd_pick_t rfl rfl) <| gl_op <| op_rd rfl (rd_move rfl) <| gl_yes rfl rfl <| op_rd rfl (rd_fieldAddr rfl (fa_48_2 _)) <| gl_yes rfl rfl (op_rd rfl (rd_load Try.underlying2 rfl rfl (by exact ld_blk 0 rfl rfl)) ?_)
        refine gl_yes rfl rfl (op_call rfl (vf := []) (vc := []) rfl rfl Try.call40 (fun w1 ho => in_ok _ _ _ w1) ?_)
        rintro _ _ ⟨rfl, rfl⟩
        refine gk_bool (fun hi24 => ?_) (fun hi24 => ?_)
        · refine gl_op <| op_rd rfl (rd_pick_t rfl rfl) <| gl_op <| op_rd rfl (rd_assign rfl) <| gl_nil <| gx_then ?_
          exact gx_cut true (by rw [head_eq]; simp [*]) ⟨rfl, rfl, rfl, rfl, rfl, trivial⟩ ⟨[0], by decide, rfl⟩
        refine gl_op <| op_rd rfl (rd_pick_t rfl rfl) <| gl_op <| op_rd rfl (rd_assign rfl) <| gl_nil <| gx_then ?_
        exact gx_cut false (by rw [head_eq]; simp [*]) ⟨rfl, rfl, rfl, rfl, rfl, trivial⟩ ⟨[0], by decide, rfl⟩
      refine gl_op <| op_rd rfl (rd_pick_t rfl rfl) <| gl_op <| op_rd rfl (rd_move rfl) <| gl_no rfl rfl rfl <| gl_no rfl rfl rfl <| gl_no rfl rfl rfl <| gl_op <| op_rd rfl (rd_pick_f rfl rfl) <| gl_op <| op_rd rfl (rd_assign rfl) <| gl_nil <| gx_then ?_
      exact gx_cut false (by rw [head_eq]; simp [*]) ⟨rfl, rfl, rfl, rfl, rfl, trivial⟩ ⟨[0], by decide, rfl⟩
    refine gl_op <| op_rd rfl (rd_move rfl) <| gl_no rfl rfl rfl <| gl_no rfl rfl rfl <| gl_no rfl rfl rfl <| gl_op <| op_rd rfl (rd_pick_f rfl rfl) <| gl_op <| op_rd rfl (rd_move rfl) <| gl_no rfl rfl rfl <| gl_no rfl rfl rfl <| gl_no rfl rfl rfl <| gl_op <| op_rd rfl (rd_pick_f rfl rfl) <| gl_op <| op_rd rfl (rd_assign rfl) <| gl_nil <| gx_then ?_
    exact gx_cut false (by rw [head_eq]; simp [*]) ⟨rfl, rfl, rfl, rfl, rfl, trivial⟩ ⟨[0], by decide, rfl⟩
  · rintro _ rfl
    refine gc_seq <| gc_seq ?_
    rw [← vldP_zero (n := l.length) (i := i)]
    refine gc_region <| gl_op <| op_rd rfl (rd_fieldAddr rfl (fa_48_3 _)) <| gl_op (op_rd rfl (rd_load Try.underlying46 rfl rfl (by exact ld_blk 0 rfl rfl)) ?_)
    refine gl_op <| op_rd rfl (rd_lenSlice Try.underlying46 rfl) <| gl_op <| op_rd rfl (rd_move rfl) <| gl_nil <| gx_then <| gc_block <| gc_loopF (ι := Nat) [(0, _), (1, _), (5, _), (27, _), (28, _)] [_] (fun k => k ≤ x.after.length) (fun k Fr0 => ((6, .bool (vldP l.length i x k)) :: (29, natV k) :: Fr0)) (fun k Fr0 => Fr0) (fun k => x.after.length - k) 0 (Nat.zero_le _) ⟨rfl, rfl, rfl, rfl, rfl, rfl, rfl, trivial⟩ ⟨[0], by decide, rfl⟩ ?_
    rintro k hk
    refine gc_seq <| gc_region <| gl_op (op_rd rfl (rd_lss rfl rfl) (gk_dec (fun h30 => ?_) (fun h30 => ?_)))
    · obtain ⟨y, hy⟩ := get_some (show k < x.after.length by omega)
      refine gl_nil <| gx_then <| gc_seq <| gc_cond_t rfl <| gc_skip <| gx_then <| gc_seq <| gc_block <| gc_seq <| gc_region <| gl_op <| op_rd rfl (rd_move rfl) <| gl_op (op_rd rfl (rd_indexOld (hJ.r x (List.mem_of_getElem? hx)) Try.underlying46 ty_50 rfl rfl (by omega) (by omega)) ?_)
      refine gl_op (op_rd rfl (rd_loadAgg Try.underlying50 rfl ty_50 rfl (cs_slN (hJ.r x (List.mem_of_getElem? hx)) (flat_drop_get lagC 2 (fun _ => rfl) hy)) rfl) ?_)
      refine gl_op (op_alloc ty_50 rfl rfl (fun b8 => ?_))
      refine gl_op <| op_rd rfl (rd_assign rfl) <| gl_op (op_storeAgg 0 ty_50 rfl rfl rfl rfl rfl rfl (by rfl) ?_)
      refine gl_nil <| gx_then <| gc_drawP [0, 1] true 36 rfl <| ga_first 0 (bm 37 1) rfl rfl rfl rfl (by kernel_rfl) (by kernel_rfl) ⟨[0, 1], by decide, rfl⟩ (qt_rd (rd_move rfl)) ?_
      refine gk_bool (fun h34 => ?_) (fun h34 => ?_)
      · refine ga_first 1 (bm 37 3) rfl rfl rfl rfl (by kernel_rfl) (by kernel_rfl) ⟨[0, 1], by decide, rfl⟩ (qt_rd (rd_move rfl)) ?_
        refine ga_firstY 2 (bm 37 7) rfl rfl rfl rfl rfl rfl (by kernel_rfl) (by kernel_rfl) ⟨[0, 1], by decide, rfl⟩ (qt_rd (rd_fieldAddr rfl (fa_50_0 _))) ?_
        refine ga_firstY 3 (bm 37 15) rfl rfl rfl rfl rfl rfl (by kernel_rfl) (by kernel_rfl) ⟨[0, 1], by decide, rfl⟩ (qt_rd (rd_load Try.underlying3 rfl rfl (by exact ld_blk 0 rfl rfl))) ?_
        refine ga_firstY 4 (bm 37 31) rfl rfl rfl rfl rfl rfl (by kernel_rfl) (by kernel_rfl) ⟨[0, 1], by decide, rfl⟩ (qt_rd (rd_move rfl)) ?_
        refine ga_firstY 5 (bm 37 63) rfl rfl rfl rfl rfl rfl (by kernel_rfl) (by kernel_rfl) ⟨[0, 1], by decide, rfl⟩ (qt_rd (rd_lenSlice Try.underlying22 rfl)) ?_
        refine ga_firstY 6 (bm 37 127) rfl rfl rfl rfl rfl rfl (by kernel_rfl) (by kernel_rfl) ⟨[0, 1], by decide, rfl⟩ (qt_rd (by exact rd_subN (b := 1) rfl rfl (by omega) (by omega))) ?_
        refine ga_firstY 7 (bm 37 255) rfl rfl rfl rfl rfl rfl (by kernel_rfl) (by kernel_rfl) ⟨[0, 1], by decide, rfl⟩ (qt_call (vf := []) (vc := []) rfl rfl Try.call40 (fun w1 ho => in_ok _ _ _ w1) (by rintro _ _ ⟨h, _⟩; exact h)) ?_
        refine gk_bool (fun hi41 => ?_) (fun hi41 => ?_)
        · refine ga_first 8 (bm 37 511) rfl rfl rfl rfl (by kernel_rfl) (by kernel_rfl) ⟨[0, 1], by decide, rfl⟩ (qt_rd (rd_pick_t rfl rfl)) ?_
          refine ga_first 9 (bm 37 1023) rfl rfl rfl rfl (by kernel_rfl) (by kernel_rfl) ⟨[0, 1], by decide, rfl⟩ (qt_rd (rd_move rfl)) ?_
          refine ga_firstY 10 (bm 37 2047) rfl rfl rfl rfl rfl rfl (by kernel_rfl) (by kernel_rfl) ⟨[0, 1], by decide, rfl⟩ (qt_rd (rd_fieldAddr rfl (fa_50_0 _))) ?_
          refine ga_firstY 11 (bm 37 4095) rfl rfl rfl rfl rfl rfl (by kernel_rfl) (by kernel_rfl) ⟨[0, 1], by decide, rfl⟩ (qt_rd (rd_load Try.underlying3 rfl rfl (by exact ld_blk 0 rfl rfl))) ?_
          refine ga_firstY 12 (bm 37 8191) rfl rfl rfl rfl rfl rfl (by kernel_rfl) (by kernel_rfl) ⟨[0, 1], by decide, rfl⟩ (qt_rd (rd_move rfl)) ?_
          refine ga_firstY 13 (bm 37 16383) rfl rfl rfl rfl rfl rfl (by kernel_rfl) (by kernel_rfl) ⟨[0, 1], by decide, rfl⟩ (qt_rd (rd_neq rfl rfl)) (gk_dec (fun hd1 => ?_) (fun hd1 => ?_))
          · refine ga_first 14 (bm 37 32767) rfl rfl rfl rfl (by kernel_rfl) (by kernel_rfl) ⟨[0, 1], by decide, rfl⟩ (qt_rd (rd_pick_t rfl rfl)) ?_
            refine ga_first 15 (bm 37 65535) rfl rfl rfl rfl (by kernel_rfl) (by kernel_rfl) ⟨[0, 1], by decide, rfl⟩ (qt_rd (rd_move rfl)) ?_
            refine ga_firstY 16 (bm 37 131071) rfl rfl rfl rfl rfl rfl (by kernel_rfl) (by kernel_rfl) ⟨[0, 1], by decide, rfl⟩ (qt_rd (rd_fieldAddr rfl (fa_50_1 _))) ?_
            refine ga_firstY 17 (bm 37 262143) rfl rfl rfl rfl rfl rfl (by kernel_rfl) (by kernel_rfl) ⟨[0, 1], by decide, rfl⟩ (qt_rd (rd_load Try.underlying2 rfl rfl (by exact ld_blk 0 rfl rfl))) ?_
            refine ga_firstY 18 (bm 37 524287) rfl rfl rfl rfl rfl rfl (by kernel_rfl) (by kernel_rfl) ⟨[0, 1], by decide, rfl⟩ (qt_call (vf := []) (vc := []) rfl rfl Try.call40 (fun w1 ho => in_ok _ _ _ w1) (by rintro _ _ ⟨h, _⟩; exact h)) ?_
            refine gk_bool (fun hi52 => ?_) (fun hi52 => ?_)
            · refine ga_first 19 (bm 37 1048575) rfl rfl rfl rfl (by kernel_rfl) (by kernel_rfl) ⟨[0, 1], by decide, rfl⟩ (qt_rd (rd_pick_t rfl rfl)) ?_
              refine ga_first 20 (bm 37 2097151) rfl rfl rfl rfl (by kernel_rfl) (by kernel_rfl) ⟨[0, 1], by decide, rfl⟩ (qt_rd (rd_move rfl)) ?_
              refine ga_firstY 21 (bm 37 4194303) rfl rfl rfl rfl rfl rfl (by kernel_rfl) (by kernel_rfl) ⟨[0, 1], by decide, rfl⟩ (qt_rd (rd_move rfl)) ?_
              refine ga_firstY 22 (bm 37 8388607) rfl rfl rfl rfl rfl rfl (by kernel_rfl) (by kernel_rfl) ⟨[0, 1], by decide, rfl⟩ (qt_rd (rd_eql rfl rfl)) (gk_dec (fun h56 => ?_) (fun h56 => ?_))
              · replace h56 : k = 0 := by omega
                refine ga_firstY 23 (bm 37 16777215) rfl rfl rfl rfl rfl rfl (by kernel_rfl) (by kernel_rfl) ⟨[0, 1], by decide, rfl⟩ (qt_rd (rd_move rfl)) ?_
                refine ga_firstN 24 (bm 37 33554431) rfl rfl rfl rfl rfl rfl (by kernel_rfl) (by kernel_rfl) ⟨[0, 1], by decide, rfl⟩ ?_
                refine ga_firstN 25 (bm 37 67108863) rfl rfl rfl rfl rfl rfl (by kernel_rfl) (by kernel_rfl) ⟨[0, 1], by decide, rfl⟩ ?_
                refine ga_firstN 26 (bm 37 134217727) rfl rfl rfl rfl rfl rfl (by kernel_rfl) (by kernel_rfl) ⟨[0, 1], by decide, rfl⟩ ?_
                refine ga_firstN 27 (bm 37 268435455) rfl rfl rfl rfl rfl rfl (by kernel_rfl) (by kernel_rfl) ⟨[0, 1], by decide, rfl⟩ ?_
                refine ga_firstN 28 (bm 37 536870911) rfl rfl rfl rfl rfl rfl (by kernel_rfl) (by kernel_rfl) ⟨[0, 1], by decide, rfl⟩ ?_
                refine ga_firstN 29 (bm 37 1073741823) rfl rfl rfl rfl rfl rfl (by kernel_rfl) (by kernel_rfl) ⟨[0, 1], by decide, rfl⟩ ?_
                refine ga_firstN 30 (bm 37 2147483647) rfl rfl rfl rfl rfl rfl (by kernel_rfl) (by kernel_rfl) ⟨[0, 1], by decide, rfl⟩ ?_
                refine ga_firstN 31 (bm 37 4294967295) rfl rfl rfl rfl rfl rfl (by kernel_rfl) (by kernel_rfl) ⟨[0, 1], by decide, rfl⟩ ?_
                refine ga_firstN 32 (bm 37 8589934591) rfl rfl rfl rfl rfl rfl (by kernel_rfl) (by kernel_rfl) ⟨[0, 1], by decide, rfl⟩ ?_
                refine ga_firstN 33 (bm 37 17179869183) rfl rfl rfl rfl rfl rfl (by kernel_rfl) (by kernel_rfl) ⟨[0, 1], by decide, rfl⟩ ?_
                refine ga_firstY 34 (bm 37 34359738367) rfl rfl rfl rfl rfl rfl (by kernel_rfl) (by kernel_rfl) ⟨[0, 1], by decide, rfl⟩ (qt_rd (rd_pick_t rfl rfl)) ?_
                refine ga_first 35 (bm 37 68719476735) rfl rfl rfl rfl (by kernel_rfl) (by kernel_rfl) ⟨[0, 1], by decide, rfl⟩ (qt_rd (rd_pick_t rfl rfl)) ?_
                refine ga_first 36 (bm 37 137438953471) rfl rfl rfl rfl (by kernel_rfl) (by kernel_rfl) ⟨[0, 1], by decide, rfl⟩ (qt_rd (rd_assign rfl)) ?_
                refine ga_end (by kernel_rfl) (.inr ⟨[0, 1], by decide, rfl⟩) ?_
                refine gx_block <| gx_then <| gc_region <| gl_op (op_rd rfl (by exact rd_addN (b := 1) rfl rfl (by omega)) ?_)
                refine gl_op <| op_rd rfl (rd_move rfl) <| gl_nil <| gx_then ?_
                rw [show Value.bool true = .bool (vldP l.length i x (k + 1)) from congrArg Value.bool (Eq.symm (by rw [vldP_next, lag_eq (by omega) hy, h34]; simp [*]))]
                exact gx_cut (k + 1) ⟨by omega, by omega⟩ ⟨rfl, rfl, rfl, rfl, rfl, rfl, rfl, trivial⟩ ⟨[1], by decide, rfl⟩
              replace h56 : k ≠ 0 := by omega
              obtain ⟨z, hz⟩ := get_some (show k - 1 < x.after.length by omega)
              have hzd := getD_some (d := default) hz
              refine ga_firstY 23 (bm 37 16777215) rfl rfl rfl rfl rfl rfl (by kernel_rfl) (by kernel_rfl) ⟨[0, 1], by decide, rfl⟩ (qt_rd (rd_move rfl)) ?_
              refine ga_firstY 24 (bm 37 33554431) rfl rfl rfl rfl rfl rfl (by kernel_rfl) (by kernel_rfl) ⟨[0, 1], by decide, rfl⟩ (qt_rd (rd_fieldAddr rfl (fa_48_3 _))) ?_
              refine ga_firstY 25 (bm 37 67108863) rfl rfl rfl rfl rfl rfl (by kernel_rfl) (by kernel_rfl) ⟨[0, 1], by decide, rfl⟩ (qt_rd (rd_load Try.underlying46 rfl rfl (by exact ld_blk 1 rfl rfl))) ?_
              refine ga_firstY 26 (bm 37 134217727) rfl rfl rfl rfl rfl rfl (by kernel_rfl) (by kernel_rfl) ⟨[0, 1], by decide, rfl⟩ (qt_rd (rd_move rfl)) ?_
              refine ga_firstY 27 (bm 37 268435455) rfl rfl rfl rfl rfl rfl (by kernel_rfl) (by kernel_rfl) ⟨[0, 1], by decide, rfl⟩ (qt_rd (by exact rd_subN (b := 1) rfl rfl (by omega) (by omega))) ?_
              refine ga_firstY 28 (bm 37 536870911) rfl rfl rfl rfl rfl rfl (by kernel_rfl) (by kernel_rfl) ⟨[0, 1], by decide, rfl⟩ (qt_rd (rd_indexOld (hJ.r x (List.mem_of_getElem? hx)) Try.underlying46 ty_50 rfl rfl (by omega) (by omega))) ?_
              refine ga_firstY 29 (bm 37 1073741823) rfl rfl rfl rfl rfl rfl (by kernel_rfl) (by kernel_rfl) ⟨[0, 1], by decide, rfl⟩ (qt_rd (rd_fieldAddr rfl (fa_50_0 _))) ?_
              refine ga_firstY 30 (bm 37 2147483647) rfl rfl rfl rfl rfl rfl (by kernel_rfl) (by kernel_rfl) ⟨[0, 1], by decide, rfl⟩ (qt_rd (rd_load Try.underlying3 rfl rfl (ld_slf (hJ.r x (List.mem_of_getElem? hx)) (get_flat lagC 2 (fun _ => rfl) hz (j := 0) (by decide) rfl)))) ?_
              refine ga_firstY 31 (bm 37 4294967295) rfl rfl rfl rfl rfl rfl (by kernel_rfl) (by kernel_rfl) ⟨[0, 1], by decide, rfl⟩ (qt_rd (rd_fieldAddr rfl (fa_50_0 _))) ?_
              refine ga_firstY 32 (bm 37 8589934591) rfl rfl rfl rfl rfl rfl (by kernel_rfl) (by kernel_rfl) ⟨[0, 1], by decide, rfl⟩ (qt_rd (rd_load Try.underlying3 rfl rfl (by exact ld_blk 0 rfl rfl))) ?_
              refine ga_firstY 33 (bm 37 17179869183) rfl rfl rfl rfl rfl rfl (by kernel_rfl) (by kernel_rfl) ⟨[0, 1], by decide, rfl⟩ (qt_rd (rd_lss rfl rfl)) ?_
              refine ga_firstY 34 (bm 37 34359738367) rfl rfl rfl rfl rfl rfl (by kernel_rfl) (by kernel_rfl) ⟨[0, 1], by decide, rfl⟩ (qt_rd (rd_pick_f rfl rfl)) ?_
              refine ga_first 35 (bm 37 68719476735) rfl rfl rfl rfl (by kernel_rfl) (by kernel_rfl) ⟨[0, 1], by decide, rfl⟩ (qt_rd (rd_pick_t rfl rfl)) ?_
              refine ga_first 36 (bm 37 137438953471) rfl rfl rfl rfl (by kernel_rfl) (by kernel_rfl) ⟨[0, 1], by decide, rfl⟩ (qt_rd (rd_assign rfl)) ?_
              refine ga_end (by kernel_rfl) (.inr ⟨[0, 1], by decide, rfl⟩) ?_
              refine gx_block <| gx_then <| gc_region <| gl_op (op_rd rfl (by exact rd_addN (b := 1) rfl rfl (by omega)) ?_)
              refine gl_op <| op_rd rfl (rd_move rfl) <| gl_nil <| gx_then ?_
              rw [show Value.bool (decide (z.1 < y.1)) = .bool (vldP l.length i x (k + 1)) from congrArg Value.bool (Eq.symm (by rw [vldP_next, lag_eq (by omega) hy, h34, hzd]; simp [*]))]
              exact gx_cut (k + 1) ⟨by omega, by omega⟩ ⟨rfl, rfl, rfl, rfl, rfl, rfl, rfl, trivial⟩ ⟨[1], by decide, rfl⟩
            refine ga_first 19 (bm 37 1048575) rfl rfl rfl rfl (by kernel_rfl) (by kernel_rfl) ⟨[0, 1], by decide, rfl⟩ (qt_rd (rd_pick_t rfl rfl)) ?_
            refine ga_first 20 (bm 37 2097151) rfl rfl rfl rfl (by kernel_rfl) (by kernel_rfl) ⟨[0, 1], by decide, rfl⟩ (qt_rd (rd_move rfl)) ?_
            refine ga_firstN 21 (bm 37 4194303) rfl rfl rfl rfl rfl rfl (by kernel_rfl) (by kernel_rfl) ⟨[0, 1], by decide, rfl⟩ ?_
            refine ga_firstN 22 (bm 37 8388607) rfl rfl rfl rfl rfl rfl (by kernel_rfl) (by kernel_rfl) ⟨[0, 1], by decide, rfl⟩ ?_
            refine ga_firstN 23 (bm 37 16777215) rfl rfl rfl rfl rfl rfl (by kernel_rfl) (by kernel_rfl) ⟨[0, 1], by decide, rfl⟩ ?_
            refine ga_firstNU 24 (bm 37 33554431) rfl rfl rfl rfl rfl rfl (by kernel_rfl) (by kernel_rfl) ⟨[0, 1], by decide, rfl⟩ ?_
            refine ga_firstNU 25 (bm 37 67108863) rfl rfl rfl rfl rfl rfl (by kernel_rfl) (by kernel_rfl) ⟨[0, 1], by decide, rfl⟩ ?_
            refine ga_firstNU 26 (bm 37 134217727) rfl rfl rfl rfl rfl rfl (by kernel_rfl) (by kernel_rfl) ⟨[0, 1], by decide, rfl⟩ ?_
            refine ga_firstNU 27 (bm 37 268435455) rfl rfl rfl rfl rfl rfl (by kernel_rfl) (by kernel_rfl) ⟨[0, 1], by decide, rfl⟩ ?_
            refine ga_firstNU 28 (bm 37 536870911) rfl rfl rfl rfl rfl rfl (by kernel_rfl) (by kernel_rfl) ⟨[0, 1], by decide, rfl⟩ ?_
            refine ga_firstNU 29 (bm 37 1073741823) rfl rfl rfl rfl rfl rfl (by kernel_rfl) (by kernel_rfl) ⟨[0, 1], by decide, rfl⟩ ?_
            refine ga_firstNU 30 (bm 37 2147483647) rfl rfl rfl rfl rfl rfl (by kernel_rfl) (by kernel_rfl) ⟨[0, 1], by decide, rfl⟩ ?_
            refine ga_firstNU 31 (bm 37 4294967295) rfl rfl rfl rfl rfl rfl (by kernel_rfl) (by kernel_rfl) ⟨[0, 1], by decide, rfl⟩ ?_
            refine ga_firstNU 32 (bm 37 8589934591) rfl rfl rfl rfl rfl rfl (by kernel_rfl) (by kernel_rfl) ⟨[0, 1], by decide, rfl⟩ ?_
            refine ga_firstNU 33 (bm 37 17179869183) rfl rfl rfl rfl rfl rfl (by kernel_rfl) (by kernel_rfl) ⟨[0, 1], by decide, rfl⟩ ?_
            refine ga_firstN 34 (bm 37 34359738367) rfl rfl rfl rfl rfl rfl (by kernel_rfl) (by kernel_rfl) ⟨[0, 1], by decide, rfl⟩ ?_
            refine ga_first 35 (bm 37 68719476735) rfl rfl rfl rfl (by kernel_rfl) (by kernel_rfl) ⟨[0, 1], by decide, rfl⟩ (qt_rd (rd_pick_f rfl rfl)) ?_
            refine ga_first 36 (bm 37 137438953471) rfl rfl rfl rfl (by kernel_rfl) (by kernel_rfl) ⟨[0, 1], by decide, rfl⟩ (qt_rd (rd_assign rfl)) ?_
            refine ga_end (by kernel_rfl) (.inr ⟨[0, 1], by decide, rfl⟩) ?_
            refine gx_block <| gx_then <| gc_region <| gl_op (op_rd rfl (by exact rd_addN (b := 1) rfl rfl (by omega)) ?_)
            refine gl_op <| op_rd rfl (rd_move rfl) <| gl_nil <| gx_then ?_
            rw [show Value.bool false = .bool (vldP l.length i x (k + 1)) from congrArg Value.bool (Eq.symm (by rw [vldP_next, lag_eq (by omega) hy, h34]; simp [*]))]
            exact gx_cut (k + 1) ⟨by omega, by omega⟩ ⟨rfl, rfl, rfl, rfl, rfl, rfl, rfl, trivial⟩ ⟨[1], by decide, rfl⟩
          refine ga_first 14 (bm 37 32767) rfl rfl rfl rfl (by kernel_rfl) (by kernel_rfl) ⟨[0, 1], by decide, rfl⟩ (qt_rd (rd_pick_t rfl rfl)) ?_
          refine ga_first 15 (bm 37 65535) rfl rfl rfl rfl (by kernel_rfl) (by kernel_rfl) ⟨[0, 1], by decide, rfl⟩ (qt_rd (rd_move rfl)) ?_
          refine ga_firstN 16 (bm 37 131071) rfl rfl rfl rfl rfl rfl (by kernel_rfl) (by kernel_rfl) ⟨[0, 1], by decide, rfl⟩ ?_
          refine ga_firstN 17 (bm 37 262143) rfl rfl rfl rfl rfl rfl (by kernel_rfl) (by kernel_rfl) ⟨[0, 1], by decide, rfl⟩ ?_
          refine ga_firstN 18 (bm 37 524287) rfl rfl rfl rfl rfl rfl (by kernel_rfl) (by kernel_rfl) ⟨[0, 1], by decide, rfl⟩ ?_
          refine ga_first 19 (bm 37 1048575) rfl rfl rfl rfl (by kernel_rfl) (by kernel_rfl) ⟨[0, 1], by decide, rfl⟩ (qt_rd (rd_pick_f rfl rfl)) ?_
          refine ga_first 20 (bm 37 2097151) rfl rfl rfl rfl (by kernel_rfl) (by kernel_rfl) ⟨[0, 1], by decide, rfl⟩ (qt_rd (rd_move rfl)) ?_
          refine ga_firstN 21 (bm 37 4194303) rfl rfl rfl rfl rfl rfl (by kernel_rfl) (by kernel_rfl) ⟨[0, 1], by decide, rfl⟩ ?_
          refine ga_firstN 22 (bm 37 8388607) rfl rfl rfl rfl rfl rfl (by kernel_rfl) (by kernel_rfl) ⟨[0, 1], by decide, rfl⟩ ?_
          refine ga_firstN 23 (bm 37 16777215) rfl rfl rfl rfl rfl rfl (by kernel_rfl) (by kernel_rfl) ⟨[0, 1], by decide, rfl⟩ ?_
          refine ga_firstNU 24 (bm 37 33554431) rfl rfl rfl rfl rfl rfl (by kernel_rfl) (by kernel_rfl) ⟨[0, 1], by decide, rfl⟩ ?_
          refine ga_firstNU 25 (bm 37 67108863) rfl rfl rfl rfl rfl rfl (by kernel_rfl) (by kernel_rfl) ⟨[0, 1], by decide, rfl⟩ ?_
          refine ga_firstNU 26 (bm 37 134217727) rfl rfl rfl rfl rfl rfl (by kernel_rfl) (by kernel_rfl) ⟨[0, 1], by decide, rfl⟩ ?_
          refine ga_firstNU 27 (bm 37 268435455) rfl rfl rfl rfl rfl rfl (by kernel_rfl) (by kernel_rfl) ⟨[0, 1], by decide, rfl⟩ ?_
          refine ga_firstNU 28 (bm 37 536870911) rfl rfl rfl rfl rfl rfl (by kernel_rfl) (by kernel_rfl) ⟨[0, 1], by decide, rfl⟩ ?_
          refine ga_firstNU 29 (bm 37 1073741823) rfl rfl rfl rfl rfl rfl (by kernel_rfl) (by kernel_rfl) ⟨[0, 1], by decide, rfl⟩ ?_
          refine ga_firstNU 30 (bm 37 2147483647) rfl rfl rfl rfl rfl rfl (by kernel_rfl) (by kernel_rfl) ⟨[0, 1], by decide, rfl⟩ ?_
          refine ga_firstNU 31 (bm 37 4294967295) rfl rfl rfl rfl rfl rfl (by kernel_rfl) (by kernel_rfl) ⟨[0, 1], by decide, rfl⟩ ?_
          refine ga_firstNU 32 (bm 37 8589934591) rfl rfl rfl rfl rfl rfl (by kernel_rfl) (by kernel_rfl) ⟨[0, 1], by decide, rfl⟩ ?_
          refine ga_firstNU 33 (bm 37 17179869183) rfl rfl rfl rfl rfl rfl (by kernel_rfl) (by kernel_rfl) ⟨[0, 1], by decide, rfl⟩ ?_
          refine ga_firstN 34 (bm 37 34359738367) rfl rfl rfl rfl rfl rfl (by kernel_rfl) (by kernel_rfl) ⟨[0, 1], by decide, rfl⟩ ?_
          refine ga_first 35 (bm 37 68719476735) rfl rfl rfl rfl (by kernel_rfl) (by kernel_rfl) ⟨[0, 1], by decide, rfl⟩ (qt_rd (rd_pick_f rfl rfl)) ?_
          refine ga_first 36 (bm 37 137438953471) rfl rfl rfl rfl (by kernel_rfl) (by kernel_rfl) ⟨[0, 1], by decide, rfl⟩ (qt_rd (rd_assign rfl)) ?_
          refine ga_end (by kernel_rfl) (.inr ⟨[0, 1], by decide, rfl⟩) ?_
          refine gx_block <| gx_then <| gc_region <| gl_op (op_rd rfl (by exact rd_addN (b := 1) rfl rfl (by omega)) ?_)
          refine gl_op <| op_rd rfl (rd_move rfl) <| gl_nil <| gx_then ?_
          rw [show Value.bool false = .bool (vldP l.length i x (k + 1)) from congrArg Value.bool (Eq.symm (by rw [vldP_next, lag_eq (by omega) hy, h34]; simp [*]))]
          exact gx_cut (k + 1) ⟨by omega, by omega⟩ ⟨rfl, rfl, rfl, rfl, rfl, rfl, rfl, trivial⟩ ⟨[1], by decide, rfl⟩
        refine ga_first 8 (bm 37 511) rfl rfl rfl rfl (by kernel_rfl) (by kernel_rfl) ⟨[0, 1], by decide, rfl⟩ (qt_rd (rd_pick_t rfl rfl)) ?_
        refine ga_first 9 (bm 37 1023) rfl rfl rfl rfl (by kernel_rfl) (by kernel_rfl) ⟨[0, 1], by decide, rfl⟩ (qt_rd (rd_move rfl)) ?_
        refine ga_firstN 10 (bm 37 2047) rfl rfl rfl rfl rfl rfl (by kernel_rfl) (by kernel_rfl) ⟨[0, 1], by decide, rfl⟩ ?_
        refine ga_firstN 11 (bm 37 4095) rfl rfl rfl rfl rfl rfl (by kernel_rfl) (by kernel_rfl) ⟨[0, 1], by decide, rfl⟩ ?_
        refine ga_firstN 12 (bm 37 8191) rfl rfl rfl rfl rfl rfl (by kernel_rfl) (by kernel_rfl) ⟨[0, 1], by decide, rfl⟩ ?_
        refine ga_firstN 13 (bm 37 16383) rfl rfl rfl rfl rfl rfl (by kernel_rfl) (by kernel_rfl) ⟨[0, 1], by decide, rfl⟩ ?_
        refine ga_first 14 (bm 37 32767) rfl rfl rfl rfl (by kernel_rfl) (by kernel_rfl) ⟨[0, 1], by decide, rfl⟩ (qt_rd (rd_pick_f rfl rfl)) ?_
        refine ga_first 15 (bm 37 65535) rfl rfl rfl rfl (by kernel_rfl) (by kernel_rfl) ⟨[0, 1], by decide, rfl⟩ (qt_rd (rd_move rfl)) ?_
        refine ga_firstN 16 (bm 37 131071) rfl rfl rfl rfl rfl rfl (by kernel_rfl) (by kernel_rfl) ⟨[0, 1], by decide, rfl⟩ ?_
        refine ga_firstN 17 (bm 37 262143) rfl rfl rfl rfl rfl rfl (by kernel_rfl) (by kernel_rfl) ⟨[0, 1], by decide, rfl⟩ ?_
        refine ga_firstN 18 (bm 37 524287) rfl rfl rfl rfl rfl rfl (by kernel_rfl) (by kernel_rfl) ⟨[0, 1], by decide, rfl⟩ ?_
        refine ga_first 19 (bm 37 1048575) rfl rfl rfl rfl (by kernel_rfl) (by kernel_rfl) ⟨[0, 1], by decide, rfl⟩ (qt_rd (rd_pick_f rfl rfl)) ?_
        refine ga_first 20 (bm 37 2097151) rfl rfl rfl rfl (by kernel_rfl) (by kernel_rfl) ⟨[0, 1], by decide, rfl⟩ (qt_rd (rd_move rfl)) ?_
        refine ga_firstN 21 (bm 37 4194303) rfl rfl rfl rfl rfl rfl (by kernel_rfl) (by kernel_rfl) ⟨[0, 1], by decide, rfl⟩ ?_
        refine ga_firstN 22 (bm 37 8388607) rfl rfl rfl rfl rfl rfl (by kernel_rfl) (by kernel_rfl) ⟨[0, 1], by decide, rfl⟩ ?_
        refine ga_firstN 23 (bm 37 16777215) rfl rfl rfl rfl rfl rfl (by kernel_rfl) (by kernel_rfl) ⟨[0, 1], by decide, rfl⟩ ?_
        refine ga_firstNU 24 (bm 37 33554431) rfl rfl rfl rfl rfl rfl (by kernel_rfl) (by kernel_rfl) ⟨[0, 1], by decide, rfl⟩ ?_
        refine ga_firstNU 25 (bm 37 67108863) rfl rfl rfl rfl rfl rfl (by kernel_rfl) (by kernel_rfl) ⟨[0, 1], by decide, rfl⟩ ?_
        refine ga_firstNU 26 (bm 37 134217727) rfl rfl rfl rfl rfl rfl (by kernel_rfl) (by kernel_rfl) ⟨[0, 1], by decide, rfl⟩ ?_
        refine ga_firstNU 27 (bm 37 268435455) rfl rfl rfl rfl rfl rfl (by kernel_rfl) (by kernel_rfl) ⟨[0, 1], by decide, rfl⟩ ?_
        refine ga_firstNU 28 (bm 37 536870911) rfl rfl rfl rfl rfl rfl (by kernel_rfl) (by kernel_rfl) ⟨[0, 1], by decide, rfl⟩ ?_
        refine ga_firstNU 29 (bm 37 1073741823) rfl rfl rfl rfl rfl rfl (by kernel_rfl) (by kernel_rfl) ⟨[0, 1], by decide, rfl⟩ ?_
        refine ga_firstNU 30 (bm 37 2147483647) rfl rfl rfl rfl rfl rfl (by kernel_rfl) (by kernel_rfl) ⟨[0, 1], by decide, rfl⟩ ?_
        refine ga_firstNU 31 (bm 37 4294967295) rfl rfl rfl rfl rfl rfl (by kernel_rfl) (by kernel_rfl) ⟨[0, 1], by decide, rfl⟩ ?_
        refine ga_firstNU 32 (bm 37 8589934591) rfl rfl rfl rfl rfl rfl (by kernel_rfl) (by kernel_rfl) ⟨[0, 1], by decide, rfl⟩ ?_
        refine ga_firstNU 33 (bm 37 17179869183) rfl rfl rfl rfl rfl rfl (by kernel_rfl) (by kernel_rfl) ⟨[0, 1], by decide, rfl⟩ ?_
        refine ga_firstN 34 (bm 37 34359738367) rfl rfl rfl rfl rfl rfl (by kernel_rfl) (by kernel_rfl) ⟨[0, 1], by decide, rfl⟩ ?_
        refine ga_first 35 (bm 37 68719476735) rfl rfl rfl rfl (by kernel_rfl) (by kernel_rfl) ⟨[0, 1], by decide, rfl⟩ (qt_rd (rd_pick_f rfl rfl)) ?_
        refine ga_first 36 (bm 37 137438953471) rfl rfl rfl rfl (by kernel_rfl) (by kernel_rfl) ⟨[0, 1], by decide, rfl⟩ (qt_rd (rd_assign rfl)) ?_
        refine ga_end (by kernel_rfl) (.inr ⟨[0, 1], by decide, rfl⟩) ?_
        refine gx_block <| gx_then <| gc_region <| gl_op (op_rd rfl (by exact rd_addN (b := 1) rfl rfl (by omega)) ?_)
        refine gl_op <| op_rd rfl (rd_move rfl) <| gl_nil <| gx_then ?_
        rw [show Value.bool false = .bool (vldP l.length i x (k + 1)) from congrArg Value.bool (Eq.symm (by rw [vldP_next, lag_eq (by omega) hy, h34]; simp [*]))]
        exact gx_cut (k + 1) ⟨by omega, by omega⟩ ⟨rfl, rfl, rfl, rfl, rfl, rfl, rfl, trivial⟩ ⟨[1], by decide, rfl⟩
      refine ga_first 1 (bm 37 3) rfl rfl rfl rfl (by kernel_rfl) (by kernel_rfl) ⟨[0, 1], by decide, rfl⟩ (qt_rd (rd_move rfl)) ?_
      refine ga_firstN 2 (bm 37 7) rfl rfl rfl rfl rfl rfl (by kernel_rfl) (by kernel_rfl) ⟨[0, 1], by decide, rfl⟩ ?_
      refine ga_firstN 3 (bm 37 15) rfl rfl rfl rfl rfl rfl (by kernel_rfl) (by kernel_rfl) ⟨[0, 1], by decide, rfl⟩ ?_
      refine ga_firstN 4 (bm 37 31) rfl rfl rfl rfl rfl rfl (by kernel_rfl) (by kernel_rfl) ⟨[0, 1], by decide, rfl⟩ ?_
      refine ga_firstN 5 (bm 37 63) rfl rfl rfl rfl rfl rfl (by kernel_rfl) (by kernel_rfl) ⟨[0, 1], by decide, rfl⟩ ?_
      refine ga_firstN 6 (bm 37 127) rfl rfl rfl rfl rfl rfl (by kernel_rfl) (by kernel_rfl) ⟨[0, 1], by decide, rfl⟩ ?_
      refine ga_firstN 7 (bm 37 255) rfl rfl rfl rfl rfl rfl (by kernel_rfl) (by kernel_rfl) ⟨[0, 1], by decide, rfl⟩ ?_
      refine ga_first 8 (bm 37 511) rfl rfl rfl rfl (by kernel_rfl) (by kernel_rfl) ⟨[0, 1], by decide, rfl⟩ (qt_rd (rd_pick_f rfl rfl)) ?_
      refine ga_first 9 (bm 37 1023) rfl rfl rfl rfl (by kernel_rfl) (by kernel_rfl) ⟨[0, 1], by decide, rfl⟩ (qt_rd (rd_move rfl)) ?_
      refine ga_firstN 10 (bm 37 2047) rfl rfl rfl rfl rfl rfl (by kernel_rfl) (by kernel_rfl) ⟨[0, 1], by decide, rfl⟩ ?_
      refine ga_firstN 11 (bm 37 4095) rfl rfl rfl rfl rfl rfl (by kernel_rfl) (by kernel_rfl) ⟨[0, 1], by decide, rfl⟩ ?_
      refine ga_firstN 12 (bm 37 8191) rfl rfl rfl rfl rfl rfl (by kernel_rfl) (by kernel_rfl) ⟨[0, 1], by decide, rfl⟩ ?_
      refine ga_firstN 13 (bm 37 16383) rfl rfl rfl rfl rfl rfl (by kernel_rfl) (by kernel_rfl) ⟨[0, 1], by decide, rfl⟩ ?_
      refine ga_first 14 (bm 37 32767) rfl rfl rfl rfl (by kernel_rfl) (by kernel_rfl) ⟨[0, 1], by decide, rfl⟩ (qt_rd (rd_pick_f rfl rfl)) ?_
      refine ga_first 15 (bm 37 65535) rfl rfl rfl rfl (by kernel_rfl) (by kernel_rfl) ⟨[0, 1], by decide, rfl⟩ (qt_rd (rd_move rfl)) ?_
      refine ga_firstN 16 (bm 37 131071) rfl rfl rfl rfl rfl rfl (by kernel_rfl) (by kernel_rfl) ⟨[0, 1], by decide, rfl⟩ ?_
      refine ga_firstN 17 (bm 37 262143) rfl rfl rfl rfl rfl rfl (by kernel_rfl) (by kernel_rfl) ⟨[0, 1], by decide, rfl⟩ ?_
      refine ga_firstN 18 (bm 37 524287) rfl rfl rfl rfl rfl rfl (by kernel_rfl) (by kernel_rfl) ⟨[0, 1], by decide, rfl⟩ ?_
      refine ga_first 19 (bm 37 1048575) rfl rfl rfl rfl (by kernel_rfl) (by kernel_rfl) ⟨[0, 1], by decide, rfl⟩ (qt_rd (rd_pick_f rfl rfl)) ?_
      refine ga_first 20 (bm 37 2097151) rfl rfl rfl rfl (by kernel_rfl) (by kernel_rfl) ⟨[0, 1], by decide, rfl⟩ (qt_rd (rd_move rfl)) ?_
      refine ga_firstN 21 (bm 37 4194303) rfl rfl rfl rfl rfl rfl (by kernel_rfl) (by kernel_rfl) ⟨[0, 1], by decide, rfl⟩ ?_
      refine ga_firstN 22 (bm 37 8388607) rfl rfl rfl rfl rfl rfl (by kernel_rfl) (by kernel_rfl) ⟨[0, 1], by decide, rfl⟩ ?_
      refine ga_firstN 23 (bm 37 16777215) rfl rfl rfl rfl rfl rfl (by kernel_rfl) (by kernel_rfl) ⟨[0, 1], by decide, rfl⟩ ?_
      refine ga_firstNU 24 (bm 37 33554431) rfl rfl rfl rfl rfl rfl (by kernel_rfl) (by kernel_rfl) ⟨[0, 1], by decide, rfl⟩ ?_
      refine ga_firstNU 25 (bm 37 67108863) rfl rfl rfl rfl rfl rfl (by kernel_rfl) (by kernel_rfl) ⟨[0, 1], by decide, rfl⟩ ?_
      refine ga_firstNU 26 (bm 37 134217727) rfl rfl rfl rfl rfl rfl (by kernel_rfl) (by kernel_rfl) ⟨[0, 1], by decide, rfl⟩ ?_
      refine ga_firstNU 27 (bm 37 268435455) rfl rfl rfl rfl rfl rfl (by kernel_rfl) (by kernel_rfl) ⟨[0, 1], by decide, rfl⟩ ?_
      refine ga_firstNU 28 (bm 37 536870911) rfl rfl rfl rfl rfl rfl (by kernel_rfl) (by kernel_rfl) ⟨[0, 1], by decide, rfl⟩ ?_
      refine ga_firstNU 29 (bm 37 1073741823) rfl rfl rfl rfl rfl rfl (by kernel_rfl) (by kernel_rfl) ⟨[0, 1], by decide, rfl⟩ ?_
      refine ga_firstNU 30 (bm 37 2147483647) rfl rfl rfl rfl rfl rfl (by kernel_rfl) (by kernel_rfl) ⟨[0, 1], by decide, rfl⟩ ?_
      refine ga_firstNU 31 (bm 37 4294967295) rfl rfl rfl rfl rfl rfl (by kernel_rfl) (by kernel_rfl) ⟨[0, 1], by decide, rfl⟩ ?_
      refine ga_firstNU 32 (bm 37 8589934591) rfl rfl rfl rfl rfl rfl (by kernel_rfl) (by kernel_rfl) ⟨[0, 1], by decide, rfl⟩ ?_
      refine ga_firstNU 33 (bm 37 17179869183) rfl rfl rfl rfl rfl rfl (by kernel_rfl) (by kernel_rfl) ⟨[0, 1], by decide, rfl⟩ ?_
      refine ga_firstN 34 (bm 37 34359738367) rfl rfl rfl rfl rfl rfl (by kernel_rfl) (by kernel_rfl) ⟨[0, 1], by decide, rfl⟩ ?_
      refine ga_first 35 (bm 37 68719476735) rfl rfl rfl rfl (by kernel_rfl) (by kernel_rfl) ⟨[0, 1], by decide, rfl⟩ (qt_rd (rd_pick_f rfl rfl)) ?_
      refine ga_first 36 (bm 37 137438953471) rfl rfl rfl rfl (by kernel_rfl) (by kernel_rfl) ⟨[0, 1], by decide, rfl⟩ (qt_rd (rd_assign rfl)) ?_
      refine ga_end (by kernel_rfl) (.inr ⟨[0, 1], by decide, rfl⟩) ?_
      refine gx_block <| gx_then <| gc_region <| gl_op (op_rd rfl (by exact rd_addN (b := 1) rfl rfl (by omega)) ?_)
      refine gl_op <| op_rd rfl (rd_move rfl) <| gl_nil <| gx_then ?_
      rw [show Value.bool false = .bool (vldP l.length i x (k + 1)) from congrArg Value.bool (Eq.symm (by rw [vldP_next, lag_eq (by omega) hy, h34]; simp [*]))]
      exact gx_cut (k + 1) ⟨by omega, by omega⟩ ⟨rfl, rfl, rfl, rfl, rfl, rfl, rfl, trivial⟩ ⟨[1], by decide, rfl⟩
    refine gl_nil <| gx_then <| gc_seq <| gc_cond_f rfl <| gc_exit <| gx_then_exit <| gx_then_exit <| gx_block_exit <| gx_then <| gc_seq <| gc_region <| gl_op <| op_rd rfl (rd_move rfl) <| gl_op <| op_rd rfl (rd_assign rfl) <| gl_nil <| gx_then <| gc_ret <| gx_ret1 (.inl rfl) Try.results34 rfl [] (by decide) ?_
    have hk9 : k = x.after.length := by omega
    subst hk9
    exact ⟨rfl, rfl⟩
set_option maxRecDepth 100000 in
set_option maxHeartbeats 1000000 in
theorem rjob_ok (x : JI) (hls : x.name.size ≤ 140737488355328) (hla : x.after.length ≤ 140737488355328) (n i : Nat) (hi : i < n) (w0 : World) (hL : OldSl w0 [] x.aa x.after.length 2 (x.after.flatMap lagC)) : Sp Try.prog 35 [x.val, natV i, natV n] w0 [] (RV (.bool (validB n i x))) := by
  have hn0 : 0 < n := by omega
  refine spec_enter Try.func35 rfl Try.ntmps35 rfl (Own.refl _) ?_
  simp only [argEnv]
  refine gc_seq <| gc_region <| gl_op (op_box rfl rfl rfl (fun b3 => ?_))
  refine gl_op <| op_rd rfl (rd_assign rfl) <| gl_nil <| gx_then <| gc_seq <| gc_seq <| gc_region <| gl_op <| op_rd rfl (rd_fieldAddr rfl (fa_48_0 _)) <| gl_op (op_rd rfl (rd_load Try.underlying9 rfl rfl (by exact ld_blk 0 rfl rfl)) ?_)
  refine gl_op (op_call rfl (vf := []) (vc := []) rfl rfl Try.call51 (fun w1 ho => rName_ok x.name hls w1) ?_)
  rintro _ _ ⟨rfl, rfl⟩
  refine gk_bool (fun hn => ?_) (fun hn => ?_)
  · refine gl_op <| op_rd rfl (rd_not rfl) <| gl_op <| op_rd rfl (rd_move rfl) <| gl_yes rfl rfl <| op_rd rfl (rd_fieldAddr rfl (fa_48_1 _)) <| gl_yes rfl rfl (op_rd rfl (rd_load Try.underlying3 rfl rfl (by exact ld_blk 0 rfl rfl)) ?_)
    refine gl_yes rfl rfl (op_rd rfl (rd_lss rfl rfl) (gk_dec (fun h16 => ?_) (fun h16 => ?_)))
    · refine gl_op <| op_rd rfl (rd_pick_f rfl rfl) <| gl_op <| op_rd rfl (rd_move rfl) <| gl_no rfl rfl rfl <| gl_no rfl rfl rfl <| gl_no rfl rfl rfl <| gl_op <| op_rd rfl (rd_pick_t rfl rfl) <| gl_op <| op_rd rfl (rd_move rfl) <| gl_no rfl rfl rfl <| gl_no rfl rfl rfl <| gl_no rfl rfl rfl <| gl_op <| op_rd rfl (rd_pick_t rfl rfl) <| gl_op <| op_rd rfl (rd_move rfl) <| gl_no rfl rfl rfl <| gl_no rfl rfl rfl <| gl_no rfl rfl rfl <| gl_op <| op_rd rfl (rd_pick_t rfl rfl) <| gl_nil <| gx_then <| gc_cond_t rfl <| gc_seq <| gc_region <| gl_op <| op_rd rfl (rd_assign rfl) <| gl_nil <| gx_then <| gc_ret ?_
      refine gx_then_ret <| gx_ret1 (.inl rfl) Try.results35 rfl [] (by decide) ?_
      refine ⟨congrArg Value.bool (Eq.symm ?_), rfl⟩
      unfold validB
      rw [show headB x = false by unfold headB; (simp; omega), Bool.false_and]
    refine gl_op <| op_rd rfl (rd_pick_f rfl rfl) <| gl_op <| op_rd rfl (rd_move rfl) <| gl_yes rfl rfl <| op_rd rfl (rd_fieldAddr rfl (fa_48_1 _)) <| gl_yes rfl rfl (op_rd rfl (rd_load Try.underlying3 rfl rfl (by exact ld_blk 0 rfl rfl)) ?_)
    refine gl_yes rfl rfl (op_rd rfl (rd_geq rfl rfl) (gk_dec (fun h21 => ?_) (fun h21 => ?_)))
    · refine gl_op <| op_rd rfl (rd_pick_f rfl rfl) <| gl_op <| op_rd rfl (rd_move rfl) <| gl_no rfl rfl rfl <| gl_no rfl rfl rfl <| gl_no rfl rfl rfl <| gl_op <| op_rd rfl (rd_pick_t rfl rfl) <| gl_op <| op_rd rfl (rd_move rfl) <| gl_no rfl rfl rfl <| gl_no rfl rfl rfl <| gl_no rfl rfl rfl <| gl_op <| op_rd rfl (rd_pick_t rfl rfl) <| gl_nil <| gx_then <| gc_cond_t rfl <| gc_seq <| gc_region <| gl_op <| op_rd rfl (rd_assign rfl) <| gl_nil <| gx_then <| gc_ret <| gx_then_ret <| gx_ret1 (.inl rfl) Try.results35 rfl [] (by decide) ?_
      refine ⟨congrArg Value.bool (Eq.symm ?_), rfl⟩
      unfold validB
      rw [show headB x = false by unfold headB; (simp; omega), Bool.false_and]
    refine gl_op <| op_rd rfl (rd_pick_f rfl rfl) <| gl_op <| op_rd rfl (rd_move rfl) <| gl_yes rfl rfl <| op_rd rfl (rd_fieldAddr rfl (fa_48_2 _)) <| gl_yes rfl rfl (op_rd rfl (rd_load Try.underlying2 rfl rfl (by exact ld_blk 0 rfl rfl)) ?_)
    refine gl_yes rfl rfl (op_rd rfl (rd_lss rfl rfl) (gk_dec (fun h26 => ?_) (fun h26 => ?_)))
    · refine gl_op <| op_rd rfl (rd_pick_f rfl rfl) <| gl_op <| op_rd rfl (rd_move rfl) <| gl_no rfl rfl rfl <| gl_no rfl rfl rfl <| gl_no rfl rfl rfl <| gl_op <| op_rd rfl (rd_pick_t rfl rfl) <| gl_nil <| gx_then <| gc_cond_t rfl <| gc_seq <| gc_region <| gl_op <| op_rd rfl (rd_assign rfl) <| gl_nil <| gx_then <| gc_ret <| gx_then_ret <| gx_ret1 (.inl rfl) Try.results35 rfl [] (by decide) ?_
      refine ⟨congrArg Value.bool (Eq.symm ?_), rfl⟩
      unfold validB
      rw [show headB x = false by unfold headB; (simp; omega), Bool.false_and]
    refine gl_op <| op_rd rfl (rd_pick_f rfl rfl) <| gl_op <| op_rd rfl (rd_move rfl) <| gl_yes rfl rfl <| op_rd rfl (rd_fieldAddr rfl (fa_48_2 _)) <| gl_yes rfl rfl (op_rd rfl (rd_load Try.underlying2 rfl rfl (by exact ld_blk 0 rfl rfl)) ?_)
    refine gl_yes rfl rfl (op_rd rfl (rd_gtr rfl rfl) (gk_dec (fun h31 => ?_) (fun h31 => ?_)))
    · refine gl_op <| op_rd rfl (rd_pick_f rfl rfl) <| gl_nil <| gx_then <| gc_cond_t rfl <| gc_seq <| gc_region <| gl_op <| op_rd rfl (rd_assign rfl) <| gl_nil <| gx_then <| gc_ret <| gx_then_ret <| gx_ret1 (.inl rfl) Try.results35 rfl [] (by decide) ?_
      refine ⟨congrArg Value.bool (Eq.symm ?_), rfl⟩
      unfold validB
      rw [show headB x = false by unfold headB; (simp; omega), Bool.false_and]
    refine gl_op <| op_rd rfl (rd_pick_f rfl rfl) <| gl_nil <| gx_then <| gc_cond_f rfl <| gc_skip <| gx_then <| gc_seq <| gc_seq <| gc_region <| gl_op <| op_rd rfl (rd_assign rfl) <| gl_nil <| gx_then <| gc_block <| gc_loopF (ι := Nat) [(1, _), (2, _), (3, _)] [_] (fun k => k ≤ x.after.length ∧ ∀ q, q < k → lagAt n i x.after q = true) (fun k Fr0 => ((7, natV k) :: Fr0)) (fun k Fr0 => Fr0) (fun k => x.after.length - k) 0 (⟨Nat.zero_le _, fun q hq => absurd hq (Nat.not_lt_zero q)⟩) ⟨rfl, rfl, rfl, rfl, trivial⟩ ⟨[0], by decide, rfl⟩ ?_
    rintro k ⟨hk, hall⟩
    refine gc_seq <| gc_seq <| gc_region <| gl_op <| op_rd rfl (rd_move rfl) <| gl_op <| op_rd rfl (rd_fieldAddr rfl (fa_48_3 _)) <| gl_op (op_rd rfl (rd_load Try.underlying46 rfl rfl (by exact ld_blk 0 rfl rfl)) ?_)
    refine gl_op <| op_rd rfl (rd_lenSlice Try.underlying46 rfl) <| gl_op (op_rd rfl (rd_lss rfl rfl) (gk_dec (fun h37 => ?_) (fun h37 => ?_)))
    · obtain ⟨y, hy⟩ := get_some (show k < x.after.length by omega)
      refine gl_nil <| gx_then <| gc_cond_t rfl <| gc_skip <| gx_then <| gc_seq <| gc_block <| gc_seq <| gc_region <| gl_op <| op_rd rfl (rd_fieldAddr rfl (fa_48_3 _)) <| gl_op (op_rd rfl (rd_load Try.underlying46 rfl rfl (by exact ld_blk 0 rfl rfl)) ?_)
      refine gl_op <| op_rd rfl (rd_move rfl) <| gl_op (op_rd rfl (rd_indexOld hL Try.underlying46 ty_50 rfl rfl (by omega) (by omega)) ?_)
      refine gl_op (op_rd rfl (rd_loadAgg Try.underlying50 rfl ty_50 rfl (cs_slN hL (flat_drop_get lagC 2 (fun _ => rfl) hy)) rfl) ?_)
      refine gl_op (op_alloc ty_50 rfl rfl (fun b8 => ?_))
      refine gl_op (op_storeAgg 0 ty_50 rfl rfl rfl rfl rfl rfl (by rfl) ?_)
      refine gl_nil <| gx_then <| gc_seq <| gc_drawP [0, 1] true 40 rfl <| ga_first 0 (bm 41 1) rfl rfl rfl rfl (by kernel_rfl) (by kernel_rfl) ⟨[0, 1], by decide, rfl⟩ (qt_rd (rd_fieldAddr rfl (fa_50_0 _))) ?_
      refine ga_first 1 (bm 41 3) rfl rfl rfl rfl (by kernel_rfl) (by kernel_rfl) ⟨[0, 1], by decide, rfl⟩ (qt_rd (rd_load Try.underlying3 rfl rfl (by exact ld_blk 0 rfl rfl))) ?_
      refine ga_first 2 (bm 41 7) rfl rfl rfl rfl (by kernel_rfl) (by kernel_rfl) ⟨[0, 1], by decide, rfl⟩ (qt_rd (rd_lss rfl rfl)) (gk_dec (fun h47 => ?_) (fun h47 => ?_))
      · refine ga_first 3 (bm 41 15) rfl rfl rfl rfl (by kernel_rfl) (by kernel_rfl) ⟨[0, 1], by decide, rfl⟩ (qt_rd (rd_move rfl)) ?_
        refine ga_firstN 4 (bm 41 31) rfl rfl rfl rfl rfl rfl (by kernel_rfl) (by kernel_rfl) ⟨[0, 1], by decide, rfl⟩ ?_
        refine ga_firstN 5 (bm 41 63) rfl rfl rfl rfl rfl rfl (by kernel_rfl) (by kernel_rfl) ⟨[0, 1], by decide, rfl⟩ ?_
        refine ga_firstN 6 (bm 41 127) rfl rfl rfl rfl rfl rfl (by kernel_rfl) (by kernel_rfl) ⟨[0, 1], by decide, rfl⟩ ?_
        refine ga_firstN 7 (bm 41 255) rfl rfl rfl rfl rfl rfl (by kernel_rfl) (by kernel_rfl) ⟨[0, 1], by decide, rfl⟩ ?_
        refine ga_first 8 (bm 41 511) rfl rfl rfl rfl (by kernel_rfl) (by kernel_rfl) ⟨[0, 1], by decide, rfl⟩ (qt_rd (rd_pick_t rfl rfl)) ?_
        refine ga_first 9 (bm 41 1023) rfl rfl rfl rfl (by kernel_rfl) (by kernel_rfl) ⟨[0, 1], by decide, rfl⟩ (qt_rd (rd_move rfl)) ?_
        refine ga_firstN 10 (bm 41 2047) rfl rfl rfl rfl rfl rfl (by kernel_rfl) (by kernel_rfl) ⟨[0, 1], by decide, rfl⟩ ?_
        refine ga_firstN 11 (bm 41 4095) rfl rfl rfl rfl rfl rfl (by kernel_rfl) (by kernel_rfl) ⟨[0, 1], by decide, rfl⟩ ?_
        refine ga_firstN 12 (bm 41 8191) rfl rfl rfl rfl rfl rfl (by kernel_rfl) (by kernel_rfl) ⟨[0, 1], by decide, rfl⟩ ?_
        refine ga_firstN 13 (bm 41 16383) rfl rfl rfl rfl rfl rfl (by kernel_rfl) (by kernel_rfl) ⟨[0, 1], by decide, rfl⟩ ?_
        refine ga_first 14 (bm 41 32767) rfl rfl rfl rfl (by kernel_rfl) (by kernel_rfl) ⟨[0, 1], by decide, rfl⟩ (qt_rd (rd_pick_t rfl rfl)) ?_
        refine ga_first 15 (bm 41 65535) rfl rfl rfl rfl (by kernel_rfl) (by kernel_rfl) ⟨[0, 1], by decide, rfl⟩ (qt_rd (rd_move rfl)) ?_
        refine ga_firstN 16 (bm 41 131071) rfl rfl rfl rfl rfl rfl (by kernel_rfl) (by kernel_rfl) ⟨[0, 1], by decide, rfl⟩ ?_
        refine ga_firstN 17 (bm 41 262143) rfl rfl rfl rfl rfl rfl (by kernel_rfl) (by kernel_rfl) ⟨[0, 1], by decide, rfl⟩ ?_
        refine ga_firstN 18 (bm 41 524287) rfl rfl rfl rfl rfl rfl (by kernel_rfl) (by kernel_rfl) ⟨[0, 1], by decide, rfl⟩ ?_
        refine ga_first 19 (bm 41 1048575) rfl rfl rfl rfl (by kernel_rfl) (by kernel_rfl) ⟨[0, 1], by decide, rfl⟩ (qt_rd (rd_pick_t rfl rfl)) ?_
        refine ga_first 20 (bm 41 2097151) rfl rfl rfl rfl (by kernel_rfl) (by kernel_rfl) ⟨[0, 1], by decide, rfl⟩ (qt_rd (rd_move rfl)) ?_
        refine ga_firstN 21 (bm 41 4194303) rfl rfl rfl rfl rfl rfl (by kernel_rfl) (by kernel_rfl) ⟨[0, 1], by decide, rfl⟩ ?_
        refine ga_firstN 22 (bm 41 8388607) rfl rfl rfl rfl rfl rfl (by kernel_rfl) (by kernel_rfl) ⟨[0, 1], by decide, rfl⟩ ?_
        refine ga_firstN 23 (bm 41 16777215) rfl rfl rfl rfl rfl rfl (by kernel_rfl) (by kernel_rfl) ⟨[0, 1], by decide, rfl⟩ ?_
        refine ga_first 24 (bm 41 33554431) rfl rfl rfl rfl (by kernel_rfl) (by kernel_rfl) ⟨[0, 1], by decide, rfl⟩ (qt_rd (rd_pick_t rfl rfl)) ?_
        refine ga_first 25 (bm 41 67108863) rfl rfl rfl rfl (by kernel_rfl) (by kernel_rfl) ⟨[0, 1], by decide, rfl⟩ (qt_rd (rd_move rfl)) ?_
        refine ga_firstN 26 (bm 41 134217727) rfl rfl rfl rfl rfl rfl (by kernel_rfl) (by kernel_rfl) ⟨[0, 1], by decide, rfl⟩ ?_
        refine ga_firstN 27 (bm 41 268435455) rfl rfl rfl rfl rfl rfl (by kernel_rfl) (by kernel_rfl) ⟨[0, 1], by decide, rfl⟩ ?_
        refine ga_firstN 28 (bm 41 536870911) rfl rfl rfl rfl rfl rfl (by kernel_rfl) (by kernel_rfl) ⟨[0, 1], by decide, rfl⟩ ?_
        refine ga_firstNU 29 (bm 41 1073741823) rfl rfl rfl rfl rfl rfl (by kernel_rfl) (by kernel_rfl) ⟨[0, 1], by decide, rfl⟩ ?_
        refine ga_firstNU 30 (bm 41 2147483647) rfl rfl rfl rfl rfl rfl (by kernel_rfl) (by kernel_rfl) ⟨[0, 1], by decide, rfl⟩ ?_
        refine ga_firstNU 31 (bm 41 4294967295) rfl rfl rfl rfl rfl rfl (by kernel_rfl) (by kernel_rfl) ⟨[0, 1], by decide, rfl⟩ ?_
        refine ga_firstNU 32 (bm 41 8589934591) rfl rfl rfl rfl rfl rfl (by kernel_rfl) (by kernel_rfl) ⟨[0, 1], by decide, rfl⟩ ?_
        refine ga_firstNU 33 (bm 41 17179869183) rfl rfl rfl rfl rfl rfl (by kernel_rfl) (by kernel_rfl) ⟨[0, 1], by decide, rfl⟩ ?_
        refine ga_firstNU 34 (bm 41 34359738367) rfl rfl rfl rfl rfl rfl (by kernel_rfl) (by kernel_rfl) ⟨[0, 1], by decide, rfl⟩ ?_
        refine ga_firstNU 35 (bm 41 68719476735) rfl rfl rfl rfl rfl rfl (by kernel_rfl) (by kernel_rfl) ⟨[0, 1], by decide, rfl⟩ ?_
        refine ga_firstNU 36 (bm 41 137438953471) rfl rfl rfl rfl rfl rfl (by kernel_rfl) (by kernel_rfl) ⟨[0, 1], by decide, rfl⟩ ?_
        refine ga_firstNU 37 (bm 41 274877906943) rfl rfl rfl rfl rfl rfl (by kernel_rfl) (by kernel_rfl) ⟨[0, 1], by decide, rfl⟩ ?_
        refine ga_firstNU 38 (bm 41 549755813887) rfl rfl rfl rfl rfl rfl (by kernel_rfl) (by kernel_rfl) ⟨[0, 1], by decide, rfl⟩ ?_
        refine ga_firstN 39 (bm 41 1099511627775) rfl rfl rfl rfl rfl rfl (by kernel_rfl) (by kernel_rfl) ⟨[0, 1], by decide, rfl⟩ ?_
        refine ga_first 40 (bm 41 2199023255551) rfl rfl rfl rfl (by kernel_rfl) (by kernel_rfl) ⟨[0, 1], by decide, rfl⟩ (qt_rd (rd_pick_t rfl rfl)) ?_
        refine ga_end (by kernel_rfl) (.inr ⟨[0, 1], by decide, rfl⟩) ?_
        refine gx_then <| gc_cond_t rfl <| gc_seq <| gc_region <| gl_op <| op_rd rfl (rd_assign rfl) <| gl_nil <| gx_then <| gc_ret <| gx_block_ret <| gx_then_ret <| gx_then_ret <| gx_block_ret <| gx_then_ret <| gx_ret1 (.inl rfl) Try.results35 rfl [] (by decide) ?_
        refine ⟨congrArg Value.bool (Eq.symm ?_), rfl⟩
        exact validB_no (k := k) (by omega) (by rw [lag_eq hn0 hy]; unfold inB; (simp; omega))
      refine ga_first 3 (bm 41 15) rfl rfl rfl rfl (by kernel_rfl) (by kernel_rfl) ⟨[0, 1], by decide, rfl⟩ (qt_rd (rd_move rfl)) ?_
      refine ga_firstY 4 (bm 41 31) rfl rfl rfl rfl rfl rfl (by kernel_rfl) (by kernel_rfl) ⟨[0, 1], by decide, rfl⟩ (qt_rd (rd_fieldAddr rfl (fa_50_0 _))) ?_
      refine ga_firstY 5 (bm 41 63) rfl rfl rfl rfl rfl rfl (by kernel_rfl) (by kernel_rfl) ⟨[0, 1], by decide, rfl⟩ (qt_rd (rd_load Try.underlying3 rfl rfl (by exact ld_blk 0 rfl rfl))) ?_
      refine ga_firstY 6 (bm 41 127) rfl rfl rfl rfl rfl rfl (by kernel_rfl) (by kernel_rfl) ⟨[0, 1], by decide, rfl⟩ (qt_rd (rd_move rfl)) ?_
      refine ga_firstY 7 (bm 41 255) rfl rfl rfl rfl rfl rfl (by kernel_rfl) (by kernel_rfl) ⟨[0, 1], by decide, rfl⟩ (qt_rd (rd_geq rfl rfl)) (gk_dec (fun h52 => ?_) (fun h52 => ?_))
      · refine ga_first 8 (bm 41 511) rfl rfl rfl rfl (by kernel_rfl) (by kernel_rfl) ⟨[0, 1], by decide, rfl⟩ (qt_rd (rd_pick_f rfl rfl)) ?_
        refine ga_first 9 (bm 41 1023) rfl rfl rfl rfl (by kernel_rfl) (by kernel_rfl) ⟨[0, 1], by decide, rfl⟩ (qt_rd (rd_move rfl)) ?_
        refine ga_firstN 10 (bm 41 2047) rfl rfl rfl rfl rfl rfl (by kernel_rfl) (by kernel_rfl) ⟨[0, 1], by decide, rfl⟩ ?_
        refine ga_firstN 11 (bm 41 4095) rfl rfl rfl rfl rfl rfl (by kernel_rfl) (by kernel_rfl) ⟨[0, 1], by decide, rfl⟩ ?_
        refine ga_firstN 12 (bm 41 8191) rfl rfl rfl rfl rfl rfl (by kernel_rfl) (by kernel_rfl) ⟨[0, 1], by decide, rfl⟩ ?_
        refine ga_firstN 13 (bm 41 16383) rfl rfl rfl rfl rfl rfl (by kernel_rfl) (by kernel_rfl) ⟨[0, 1], by decide, rfl⟩ ?_
        refine ga_first 14 (bm 41 32767) rfl rfl rfl rfl (by kernel_rfl) (by kernel_rfl) ⟨[0, 1], by decide, rfl⟩ (qt_rd (rd_pick_t rfl rfl)) ?_
        refine ga_first 15 (bm 41 65535) rfl rfl rfl rfl (by kernel_rfl) (by kernel_rfl) ⟨[0, 1], by decide, rfl⟩ (qt_rd (rd_move rfl)) ?_
        refine ga_firstN 16 (bm 41 131071) rfl rfl rfl rfl rfl rfl (by kernel_rfl) (by kernel_rfl) ⟨[0, 1], by decide, rfl⟩ ?_
        refine ga_firstN 17 (bm 41 262143) rfl rfl rfl rfl rfl rfl (by kernel_rfl) (by kernel_rfl) ⟨[0, 1], by decide, rfl⟩ ?_
        refine ga_firstN 18 (bm 41 524287) rfl rfl rfl rfl rfl rfl (by kernel_rfl) (by kernel_rfl) ⟨[0, 1], by decide, rfl⟩ ?_
        refine ga_first 19 (bm 41 1048575) rfl rfl rfl rfl (by kernel_rfl) (by kernel_rfl) ⟨[0, 1], by decide, rfl⟩ (qt_rd (rd_pick_t rfl rfl)) ?_
        refine ga_first 20 (bm 41 2097151) rfl rfl rfl rfl (by kernel_rfl) (by kernel_rfl) ⟨[0, 1], by decide, rfl⟩ (qt_rd (rd_move rfl)) ?_
        refine ga_firstN 21 (bm 41 4194303) rfl rfl rfl rfl rfl rfl (by kernel_rfl) (by kernel_rfl) ⟨[0, 1], by decide, rfl⟩ ?_
        refine ga_firstN 22 (bm 41 8388607) rfl rfl rfl rfl rfl rfl (by kernel_rfl) (by kernel_rfl) ⟨[0, 1], by decide, rfl⟩ ?_
        refine ga_firstN 23 (bm 41 16777215) rfl rfl rfl rfl rfl rfl (by kernel_rfl) (by kernel_rfl) ⟨[0, 1], by decide, rfl⟩ ?_
        refine ga_first 24 (bm 41 33554431) rfl rfl rfl rfl (by kernel_rfl) (by kernel_rfl) ⟨[0, 1], by decide, rfl⟩ (qt_rd (rd_pick_t rfl rfl)) ?_
        refine ga_first 25 (bm 41 67108863) rfl rfl rfl rfl (by kernel_rfl) (by kernel_rfl) ⟨[0, 1], by decide, rfl⟩ (qt_rd (rd_move rfl)) ?_
        refine ga_firstN 26 (bm 41 134217727) rfl rfl rfl rfl rfl rfl (by kernel_rfl) (by kernel_rfl) ⟨[0, 1], by decide, rfl⟩ ?_
        refine ga_firstN 27 (bm 41 268435455) rfl rfl rfl rfl rfl rfl (by kernel_rfl) (by kernel_rfl) ⟨[0, 1], by decide, rfl⟩ ?_
        refine ga_firstN 28 (bm 41 536870911) rfl rfl rfl rfl rfl rfl (by kernel_rfl) (by kernel_rfl) ⟨[0, 1], by decide, rfl⟩ ?_
        refine ga_firstNU 29 (bm 41 1073741823) rfl rfl rfl rfl rfl rfl (by kernel_rfl) (by kernel_rfl) ⟨[0, 1], by decide, rfl⟩ ?_
        refine ga_firstNU 30 (bm 41 2147483647) rfl rfl rfl rfl rfl rfl (by kernel_rfl) (by kernel_rfl) ⟨[0, 1], by decide, rfl⟩ ?_
        refine ga_firstNU 31 (bm 41 4294967295) rfl rfl rfl rfl rfl rfl (by kernel_rfl) (by kernel_rfl) ⟨[0, 1], by decide, rfl⟩ ?_
        refine ga_firstNU 32 (bm 41 8589934591) rfl rfl rfl rfl rfl rfl (by kernel_rfl) (by kernel_rfl) ⟨[0, 1], by decide, rfl⟩ ?_
        refine ga_firstNU 33 (bm 41 17179869183) rfl rfl rfl rfl rfl rfl (by kernel_rfl) (by kernel_rfl) ⟨[0, 1], by decide, rfl⟩ ?_
        refine ga_firstNU 34 (bm 41 34359738367) rfl rfl rfl rfl rfl rfl (by kernel_rfl) (by kernel_rfl) ⟨[0, 1], by decide, rfl⟩ ?_
        refine ga_firstNU 35 (bm 41 68719476735) rfl rfl rfl rfl rfl rfl (by kernel_rfl) (by kernel_rfl) ⟨[0, 1], by decide, rfl⟩ ?_
        refine ga_firstNU 36 (bm 41 137438953471) rfl rfl rfl rfl rfl rfl (by kernel_rfl) (by kernel_rfl) ⟨[0, 1], by decide, rfl⟩ ?_
        refine ga_firstNU 37 (bm 41 274877906943) rfl rfl rfl rfl rfl rfl (by kernel_rfl) (by kernel_rfl) ⟨[0, 1], by decide, rfl⟩ ?_
        refine ga_firstNU 38 (bm 41 549755813887) rfl rfl rfl rfl rfl rfl (by kernel_rfl) (by kernel_rfl) ⟨[0, 1], by decide, rfl⟩ ?_
        refine ga_firstN 39 (bm 41 1099511627775) rfl rfl rfl rfl rfl rfl (by kernel_rfl) (by kernel_rfl) ⟨[0, 1], by decide, rfl⟩ ?_
        refine ga_first 40 (bm 41 2199023255551) rfl rfl rfl rfl (by kernel_rfl) (by kernel_rfl) ⟨[0, 1], by decide, rfl⟩ (qt_rd (rd_pick_t rfl rfl)) ?_
        refine ga_end (by kernel_rfl) (.inr ⟨[0, 1], by decide, rfl⟩) ?_
        refine gx_then <| gc_cond_t rfl <| gc_seq <| gc_region <| gl_op <| op_rd rfl (rd_assign rfl) <| gl_nil <| gx_then <| gc_ret <| gx_block_ret <| gx_then_ret <| gx_then_ret <| gx_block_ret <| gx_then_ret <| gx_ret1 (.inl rfl) Try.results35 rfl [] (by decide) ?_
        refine ⟨congrArg Value.bool (Eq.symm ?_), rfl⟩
        exact validB_no (k := k) (by omega) (by rw [lag_eq hn0 hy]; unfold inB; (simp; omega))
      refine ga_first 8 (bm 41 511) rfl rfl rfl rfl (by kernel_rfl) (by kernel_rfl) ⟨[0, 1], by decide, rfl⟩ (qt_rd (rd_pick_f rfl rfl)) ?_
      refine ga_first 9 (bm 41 1023) rfl rfl rfl rfl (by kernel_rfl) (by kernel_rfl) ⟨[0, 1], by decide, rfl⟩ (qt_rd (rd_move rfl)) ?_
      refine ga_firstY 10 (bm 41 2047) rfl rfl rfl rfl rfl rfl (by kernel_rfl) (by kernel_rfl) ⟨[0, 1], by decide, rfl⟩ (qt_rd (rd_fieldAddr rfl (fa_50_0 _))) ?_
      refine ga_firstY 11 (bm 41 4095) rfl rfl rfl rfl rfl rfl (by kernel_rfl) (by kernel_rfl) ⟨[0, 1], by decide, rfl⟩ (qt_rd (rd_load Try.underlying3 rfl rfl (by exact ld_blk 0 rfl rfl))) ?_
      refine ga_firstY 12 (bm 41 8191) rfl rfl rfl rfl rfl rfl (by kernel_rfl) (by kernel_rfl) ⟨[0, 1], by decide, rfl⟩ (qt_rd (rd_move rfl)) ?_
      refine ga_firstY 13 (bm 41 16383) rfl rfl rfl rfl rfl rfl (by kernel_rfl) (by kernel_rfl) ⟨[0, 1], by decide, rfl⟩ (qt_rd (rd_eql rfl rfl)) (gk_dec (fun h58 => ?_) (fun h58 => ?_))
      · refine ga_first 14 (bm 41 32767) rfl rfl rfl rfl (by kernel_rfl) (by kernel_rfl) ⟨[0, 1], by decide, rfl⟩ (qt_rd (rd_pick_f rfl rfl)) ?_
        refine ga_first 15 (bm 41 65535) rfl rfl rfl rfl (by kernel_rfl) (by kernel_rfl) ⟨[0, 1], by decide, rfl⟩ (qt_rd (rd_move rfl)) ?_
        refine ga_firstN 16 (bm 41 131071) rfl rfl rfl rfl rfl rfl (by kernel_rfl) (by kernel_rfl) ⟨[0, 1], by decide, rfl⟩ ?_
        refine ga_firstN 17 (bm 41 262143) rfl rfl rfl rfl rfl rfl (by kernel_rfl) (by kernel_rfl) ⟨[0, 1], by decide, rfl⟩ ?_
        refine ga_firstN 18 (bm 41 524287) rfl rfl rfl rfl rfl rfl (by kernel_rfl) (by kernel_rfl) ⟨[0, 1], by decide, rfl⟩ ?_
        refine ga_first 19 (bm 41 1048575) rfl rfl rfl rfl (by kernel_rfl) (by kernel_rfl) ⟨[0, 1], by decide, rfl⟩ (qt_rd (rd_pick_t rfl rfl)) ?_
        refine ga_first 20 (bm 41 2097151) rfl rfl rfl rfl (by kernel_rfl) (by kernel_rfl) ⟨[0, 1], by decide, rfl⟩ (qt_rd (rd_move rfl)) ?_
        refine ga_firstN 21 (bm 41 4194303) rfl rfl rfl rfl rfl rfl (by kernel_rfl) (by kernel_rfl) ⟨[0, 1], by decide, rfl⟩ ?_
        refine ga_firstN 22 (bm 41 8388607) rfl rfl rfl rfl rfl rfl (by kernel_rfl) (by kernel_rfl) ⟨[0, 1], by decide, rfl⟩ ?_
        refine ga_firstN 23 (bm 41 16777215) rfl rfl rfl rfl rfl rfl (by kernel_rfl) (by kernel_rfl) ⟨[0, 1], by decide, rfl⟩ ?_
        refine ga_first 24 (bm 41 33554431) rfl rfl rfl rfl (by kernel_rfl) (by kernel_rfl) ⟨[0, 1], by decide, rfl⟩ (qt_rd (rd_pick_t rfl rfl)) ?_
        refine ga_first 25 (bm 41 67108863) rfl rfl rfl rfl (by kernel_rfl) (by kernel_rfl) ⟨[0, 1], by decide, rfl⟩ (qt_rd (rd_move rfl)) ?_
        refine ga_firstN 26 (bm 41 134217727) rfl rfl rfl rfl rfl rfl (by kernel_rfl) (by kernel_rfl) ⟨[0, 1], by decide, rfl⟩ ?_
        refine ga_firstN 27 (bm 41 268435455) rfl rfl rfl rfl rfl rfl (by kernel_rfl) (by kernel_rfl) ⟨[0, 1], by decide, rfl⟩ ?_
        refine ga_firstN 28 (bm 41 536870911) rfl rfl rfl rfl rfl rfl (by kernel_rfl) (by kernel_rfl) ⟨[0, 1], by decide, rfl⟩ ?_
        refine ga_firstNU 29 (bm 41 1073741823) rfl rfl rfl rfl rfl rfl (by kernel_rfl) (by kernel_rfl) ⟨[0, 1], by decide, rfl⟩ ?_
        refine ga_firstNU 30 (bm 41 2147483647) rfl rfl rfl rfl rfl rfl (by kernel_rfl) (by kernel_rfl) ⟨[0, 1], by decide, rfl⟩ ?_
        refine ga_firstNU 31 (bm 41 4294967295) rfl rfl rfl rfl rfl rfl (by kernel_rfl) (by kernel_rfl) ⟨[0, 1], by decide, rfl⟩ ?_
        refine ga_firstNU 32 (bm 41 8589934591) rfl rfl rfl rfl rfl rfl (by kernel_rfl) (by kernel_rfl) ⟨[0, 1], by decide, rfl⟩ ?_
        refine ga_firstNU 33 (bm 41 17179869183) rfl rfl rfl rfl rfl rfl (by kernel_rfl) (by kernel_rfl) ⟨[0, 1], by decide, rfl⟩ ?_
        refine ga_firstNU 34 (bm 41 34359738367) rfl rfl rfl rfl rfl rfl (by kernel_rfl) (by kernel_rfl) ⟨[0, 1], by decide, rfl⟩ ?_
        refine ga_firstNU 35 (bm 41 68719476735) rfl rfl rfl rfl rfl rfl (by kernel_rfl) (by kernel_rfl) ⟨[0, 1], by decide, rfl⟩ ?_
        refine ga_firstNU 36 (bm 41 137438953471) rfl rfl rfl rfl rfl rfl (by kernel_rfl) (by kernel_rfl) ⟨[0, 1], by decide, rfl⟩ ?_
        refine ga_firstNU 37 (bm 41 274877906943) rfl rfl rfl rfl rfl rfl (by kernel_rfl) (by kernel_rfl) ⟨[0, 1], by decide, rfl⟩ ?_
        refine ga_firstNU 38 (bm 41 549755813887) rfl rfl rfl rfl rfl rfl (by kernel_rfl) (by kernel_rfl) ⟨[0, 1], by decide, rfl⟩ ?_
        refine ga_firstN 39 (bm 41 1099511627775) rfl rfl rfl rfl rfl rfl (by kernel_rfl) (by kernel_rfl) ⟨[0, 1], by decide, rfl⟩ ?_
        refine ga_first 40 (bm 41 2199023255551) rfl rfl rfl rfl (by kernel_rfl) (by kernel_rfl) ⟨[0, 1], by decide, rfl⟩ (qt_rd (rd_pick_t rfl rfl)) ?_
        refine ga_end (by kernel_rfl) (.inr ⟨[0, 1], by decide, rfl⟩) ?_
        refine gx_then <| gc_cond_t rfl <| gc_seq <| gc_region <| gl_op <| op_rd rfl (rd_assign rfl) <| gl_nil <| gx_then <| gc_ret <| gx_block_ret <| gx_then_ret <| gx_then_ret <| gx_block_ret <| gx_then_ret <| gx_ret1 (.inl rfl) Try.results35 rfl [] (by decide) ?_
        refine ⟨congrArg Value.bool (Eq.symm ?_), rfl⟩
        exact validB_no (k := k) (by omega) (by rw [lag_eq hn0 hy]; unfold inB; (simp; omega))
      refine ga_first 14 (bm 41 32767) rfl rfl rfl rfl (by kernel_rfl) (by kernel_rfl) ⟨[0, 1], by decide, rfl⟩ (qt_rd (rd_pick_f rfl rfl)) ?_
      refine ga_first 15 (bm 41 65535) rfl rfl rfl rfl (by kernel_rfl) (by kernel_rfl) ⟨[0, 1], by decide, rfl⟩ (qt_rd (rd_move rfl)) ?_
      refine ga_firstY 16 (bm 41 131071) rfl rfl rfl rfl rfl rfl (by kernel_rfl) (by kernel_rfl) ⟨[0, 1], by decide, rfl⟩ (qt_rd (rd_fieldAddr rfl (fa_50_1 _))) ?_
      refine ga_firstY 17 (bm 41 262143) rfl rfl rfl rfl rfl rfl (by kernel_rfl) (by kernel_rfl) ⟨[0, 1], by decide, rfl⟩ (qt_rd (rd_load Try.underlying2 rfl rfl (by exact ld_blk 0 rfl rfl))) ?_
      refine ga_firstY 18 (bm 41 524287) rfl rfl rfl rfl rfl rfl (by kernel_rfl) (by kernel_rfl) ⟨[0, 1], by decide, rfl⟩ (qt_rd (rd_lss rfl rfl)) (gk_dec (fun h63 => ?_) (fun h63 => ?_))
      · refine ga_first 19 (bm 41 1048575) rfl rfl rfl rfl (by kernel_rfl) (by kernel_rfl) ⟨[0, 1], by decide, rfl⟩ (qt_rd (rd_pick_f rfl rfl)) ?_
        refine ga_first 20 (bm 41 2097151) rfl rfl rfl rfl (by kernel_rfl) (by kernel_rfl) ⟨[0, 1], by decide, rfl⟩ (qt_rd (rd_move rfl)) ?_
        refine ga_firstN 21 (bm 41 4194303) rfl rfl rfl rfl rfl rfl (by kernel_rfl) (by kernel_rfl) ⟨[0, 1], by decide, rfl⟩ ?_
        refine ga_firstN 22 (bm 41 8388607) rfl rfl rfl rfl rfl rfl (by kernel_rfl) (by kernel_rfl) ⟨[0, 1], by decide, rfl⟩ ?_
        refine ga_firstN 23 (bm 41 16777215) rfl rfl rfl rfl rfl rfl (by kernel_rfl) (by kernel_rfl) ⟨[0, 1], by decide, rfl⟩ ?_
        refine ga_first 24 (bm 41 33554431) rfl rfl rfl rfl (by kernel_rfl) (by kernel_rfl) ⟨[0, 1], by decide, rfl⟩ (qt_rd (rd_pick_t rfl rfl)) ?_
        refine ga_first 25 (bm 41 67108863) rfl rfl rfl rfl (by kernel_rfl) (by kernel_rfl) ⟨[0, 1], by decide, rfl⟩ (qt_rd (rd_move rfl)) ?_
        refine ga_firstN 26 (bm 41 134217727) rfl rfl rfl rfl rfl rfl (by kernel_rfl) (by kernel_rfl) ⟨[0, 1], by decide, rfl⟩ ?_
        refine ga_firstN 27 (bm 41 268435455) rfl rfl rfl rfl rfl rfl (by kernel_rfl) (by kernel_rfl) ⟨[0, 1], by decide, rfl⟩ ?_
        refine ga_firstN 28 (bm 41 536870911) rfl rfl rfl rfl rfl rfl (by kernel_rfl) (by kernel_rfl) ⟨[0, 1], by decide, rfl⟩ ?_
        refine ga_firstNU 29 (bm 41 1073741823) rfl rfl rfl rfl rfl rfl (by kernel_rfl) (by kernel_rfl) ⟨[0, 1], by decide, rfl⟩ ?_
        refine ga_firstNU 30 (bm 41 2147483647) rfl rfl rfl rfl rfl rfl (by kernel_rfl) (by kernel_rfl) ⟨[0, 1], by decide, rfl⟩ ?_
        refine ga_firstNU 31 (bm 41 4294967295) rfl rfl rfl rfl rfl rfl (by kernel_rfl) (by kernel_rfl) ⟨[0, 1], by decide, rfl⟩ ?_
        refine ga_firstNU 32 (bm 41 8589934591) rfl rfl rfl rfl rfl rfl (by kernel_rfl) (by kernel_rfl) ⟨[0, 1], by decide, rfl⟩ ?_
        refine ga_firstNU 33 (bm 41 17179869183) rfl rfl rfl rfl rfl rfl (by kernel_rfl) (by kernel_rfl) ⟨[0, 1], by decide, rfl⟩ ?_
        refine ga_firstNU 34 (bm 41 34359738367) rfl rfl rfl rfl rfl rfl (by kernel_rfl) (by kernel_rfl) ⟨[0, 1], by decide, rfl⟩ ?_
        refine ga_firstNU 35 (bm 41 68719476735) rfl rfl rfl rfl rfl rfl (by kernel_rfl) (by kernel_rfl) ⟨[0, 1], by decide, rfl⟩ ?_
        refine ga_firstNU 36 (bm 41 137438953471) rfl rfl rfl rfl rfl rfl (by kernel_rfl) (by kernel_rfl) ⟨[0, 1], by decide, rfl⟩ ?_
        refine ga_firstNU 37 (bm 41 274877906943) rfl rfl rfl rfl rfl rfl (by kernel_rfl) (by kernel_rfl) ⟨[0, 1], by decide, rfl⟩ ?_
        refine ga_firstNU 38 (bm 41 549755813887) rfl rfl rfl rfl rfl rfl (by kernel_rfl) (by kernel_rfl) ⟨[0, 1], by decide, rfl⟩ ?_
        refine ga_firstN 39 (bm 41 1099511627775) rfl rfl rfl rfl rfl rfl (by kernel_rfl) (by kernel_rfl) ⟨[0, 1], by decide, rfl⟩ ?_
        refine ga_first 40 (bm 41 2199023255551) rfl rfl rfl rfl (by kernel_rfl) (by kernel_rfl) ⟨[0, 1], by decide, rfl⟩ (qt_rd (rd_pick_t rfl rfl)) ?_
        refine ga_end (by kernel_rfl) (.inr ⟨[0, 1], by decide, rfl⟩) ?_
        refine gx_then <| gc_cond_t rfl <| gc_seq <| gc_region <| gl_op <| op_rd rfl (rd_assign rfl) <| gl_nil <| gx_then <| gc_ret <| gx_block_ret <| gx_then_ret <| gx_then_ret <| gx_block_ret <| gx_then_ret <| gx_ret1 (.inl rfl) Try.results35 rfl [] (by decide) ?_
        refine ⟨congrArg Value.bool (Eq.symm ?_), rfl⟩
        exact validB_no (k := k) (by omega) (by rw [lag_eq hn0 hy]; unfold inB; (simp; omega))
      refine ga_first 19 (bm 41 1048575) rfl rfl rfl rfl (by kernel_rfl) (by kernel_rfl) ⟨[0, 1], by decide, rfl⟩ (qt_rd (rd_pick_f rfl rfl)) ?_
      refine ga_first 20 (bm 41 2097151) rfl rfl rfl rfl (by kernel_rfl) (by kernel_rfl) ⟨[0, 1], by decide, rfl⟩ (qt_rd (rd_move rfl)) ?_
      refine ga_firstY 21 (bm 41 4194303) rfl rfl rfl rfl rfl rfl (by kernel_rfl) (by kernel_rfl) ⟨[0, 1], by decide, rfl⟩ (qt_rd (rd_fieldAddr rfl (fa_50_1 _))) ?_
      refine ga_firstY 22 (bm 41 8388607) rfl rfl rfl rfl rfl rfl (by kernel_rfl) (by kernel_rfl) ⟨[0, 1], by decide, rfl⟩ (qt_rd (rd_load Try.underlying2 rfl rfl (by exact ld_blk 0 rfl rfl))) ?_
      refine ga_firstY 23 (bm 41 16777215) rfl rfl rfl rfl rfl rfl (by kernel_rfl) (by kernel_rfl) ⟨[0, 1], by decide, rfl⟩ (qt_rd (rd_gtr rfl rfl)) (gk_dec (fun h68 => ?_) (fun h68 => ?_))
      · refine ga_first 24 (bm 41 33554431) rfl rfl rfl rfl (by kernel_rfl) (by kernel_rfl) ⟨[0, 1], by decide, rfl⟩ (qt_rd (rd_pick_f rfl rfl)) ?_
        refine ga_first 25 (bm 41 67108863) rfl rfl rfl rfl (by kernel_rfl) (by kernel_rfl) ⟨[0, 1], by decide, rfl⟩ (qt_rd (rd_move rfl)) ?_
        refine ga_firstN 26 (bm 41 134217727) rfl rfl rfl rfl rfl rfl (by kernel_rfl) (by kernel_rfl) ⟨[0, 1], by decide, rfl⟩ ?_
        refine ga_firstN 27 (bm 41 268435455) rfl rfl rfl rfl rfl rfl (by kernel_rfl) (by kernel_rfl) ⟨[0, 1], by decide, rfl⟩ ?_
        refine ga_firstN 28 (bm 41 536870911) rfl rfl rfl rfl rfl rfl (by kernel_rfl) (by kernel_rfl) ⟨[0, 1], by decide, rfl⟩ ?_
        refine ga_firstNU 29 (bm 41 1073741823) rfl rfl rfl rfl rfl rfl (by kernel_rfl) (by kernel_rfl) ⟨[0, 1], by decide, rfl⟩ ?_
        refine ga_firstNU 30 (bm 41 2147483647) rfl rfl rfl rfl rfl rfl (by kernel_rfl) (by kernel_rfl) ⟨[0, 1], by decide, rfl⟩ ?_
        refine ga_firstNU 31 (bm 41 4294967295) rfl rfl rfl rfl rfl rfl (by kernel_rfl) (by kernel_rfl) ⟨[0, 1], by decide, rfl⟩ ?_
        refine ga_firstNU 32 (bm 41 8589934591) rfl rfl rfl rfl rfl rfl (by kernel_rfl) (by kernel_rfl) ⟨[0, 1], by decide, rfl⟩ ?_
        refine ga_firstNU 33 (bm 41 17179869183) rfl rfl rfl rfl rfl rfl (by kernel_rfl) (by kernel_rfl) ⟨[0, 1], by decide, rfl⟩ ?_
        refine ga_firstNU 34 (bm 41 34359738367) rfl rfl rfl rfl rfl rfl (by kernel_rfl) (by kernel_rfl) ⟨[0, 1], by decide, rfl⟩ ?_
        refine ga_firstNU 35 (bm 41 68719476735) rfl rfl rfl rfl rfl rfl (by kernel_rfl) (by kernel_rfl) ⟨[0, 1], by decide, rfl⟩ ?_
        refine ga_firstNU 36 (bm 41 137438953471) rfl rfl rfl rfl rfl rfl (by kernel_rfl) (by kernel_rfl) ⟨[0, 1], by decide, rfl⟩ ?_
        refine ga_firstNU 37 (bm 41 274877906943) rfl rfl rfl rfl rfl rfl (by kernel_rfl) (by kernel_rfl) ⟨[0, 1], by decide, rfl⟩ ?_
        refine ga_firstNU 38 (bm 41 549755813887) rfl rfl rfl rfl rfl rfl (by kernel_rfl) (by kernel_rfl) ⟨[0, 1], by decide, rfl⟩ ?_
        refine ga_firstN 39 (bm 41 1099511627775) rfl rfl rfl rfl rfl rfl (by kernel_rfl) (by kernel_rfl) ⟨[0, 1], by decide, rfl⟩ ?_
        refine ga_first 40 (bm 41 2199023255551) rfl rfl rfl rfl (by kernel_rfl) (by kernel_rfl) ⟨[0, 1], by decide, rfl⟩ (qt_rd (rd_pick_t rfl rfl)) ?_
        refine ga_end (by kernel_rfl) (.inr ⟨[0, 1], by decide, rfl⟩) ?_
        refine gx_then <| gc_cond_t rfl <| gc_seq <| gc_region <| gl_op <| op_rd rfl (rd_assign rfl) <| gl_nil <| gx_then <| gc_ret <| gx_block_ret <| gx_then_ret <| gx_then_ret <| gx_block_ret <| gx_then_ret <| gx_ret1 (.inl rfl) Try.results35 rfl [] (by decide) ?_
        refine ⟨congrArg Value.bool (Eq.symm ?_), rfl⟩
        exact validB_no (k := k) (by omega) (by rw [lag_eq hn0 hy]; unfold inB; (simp; omega))
      refine ga_first 24 (bm 41 33554431) rfl rfl rfl rfl (by kernel_rfl) (by kernel_rfl) ⟨[0, 1], by decide, rfl⟩ (qt_rd (rd_pick_f rfl rfl)) ?_
      refine ga_first 25 (bm 41 67108863) rfl rfl rfl rfl (by kernel_rfl) (by kernel_rfl) ⟨[0, 1], by decide, rfl⟩ (qt_rd (rd_move rfl)) ?_
      refine ga_firstY 26 (bm 41 134217727) rfl rfl rfl rfl rfl rfl (by kernel_rfl) (by kernel_rfl) ⟨[0, 1], by decide, rfl⟩ (qt_rd (rd_move rfl)) ?_
      refine ga_firstY 27 (bm 41 268435455) rfl rfl rfl rfl rfl rfl (by kernel_rfl) (by kernel_rfl) ⟨[0, 1], by decide, rfl⟩ (qt_rd (rd_gtr rfl rfl)) (gk_dec (fun h72 => ?_) (fun h72 => ?_))
      · obtain ⟨z, hz⟩ := get_some (show k - 1 < x.after.length by omega)
        have hzd := getD_some (d := default) hz
        refine ga_firstY 28 (bm 41 536870911) rfl rfl rfl rfl rfl rfl (by kernel_rfl) (by kernel_rfl) ⟨[0, 1], by decide, rfl⟩ (qt_rd (rd_move rfl)) ?_
        refine ga_firstY 29 (bm 41 1073741823) rfl rfl rfl rfl rfl rfl (by kernel_rfl) (by kernel_rfl) ⟨[0, 1], by decide, rfl⟩ (qt_rd (rd_fieldAddr rfl (fa_48_3 _))) ?_
        refine ga_firstY 30 (bm 41 2147483647) rfl rfl rfl rfl rfl rfl (by kernel_rfl) (by kernel_rfl) ⟨[0, 1], by decide, rfl⟩ (qt_rd (rd_load Try.underlying46 rfl rfl (by exact ld_blk 1 rfl rfl))) ?_
        refine ga_firstY 31 (bm 41 4294967295) rfl rfl rfl rfl rfl rfl (by kernel_rfl) (by kernel_rfl) ⟨[0, 1], by decide, rfl⟩ (qt_rd (rd_move rfl)) ?_
        refine ga_firstY 32 (bm 41 8589934591) rfl rfl rfl rfl rfl rfl (by kernel_rfl) (by kernel_rfl) ⟨[0, 1], by decide, rfl⟩ (qt_rd (by exact rd_subN (b := 1) rfl rfl (by omega) (by omega))) ?_
        refine ga_firstY 33 (bm 41 17179869183) rfl rfl rfl rfl rfl rfl (by kernel_rfl) (by kernel_rfl) ⟨[0, 1], by decide, rfl⟩ (qt_rd (rd_indexOld hL Try.underlying46 ty_50 rfl rfl (by omega) (by omega))) ?_
        refine ga_firstY 34 (bm 41 34359738367) rfl rfl rfl rfl rfl rfl (by kernel_rfl) (by kernel_rfl) ⟨[0, 1], by decide, rfl⟩ (qt_rd (rd_fieldAddr rfl (fa_50_0 _))) ?_
        refine ga_firstY 35 (bm 41 68719476735) rfl rfl rfl rfl rfl rfl (by kernel_rfl) (by kernel_rfl) ⟨[0, 1], by decide, rfl⟩ (qt_rd (rd_load Try.underlying3 rfl rfl (ld_slf hL (get_flat lagC 2 (fun _ => rfl) hz (j := 0) (by decide) rfl)))) ?_
        refine ga_firstY 36 (bm 41 137438953471) rfl rfl rfl rfl rfl rfl (by kernel_rfl) (by kernel_rfl) ⟨[0, 1], by decide, rfl⟩ (qt_rd (rd_fieldAddr rfl (fa_50_0 _))) ?_
        refine ga_firstY 37 (bm 41 274877906943) rfl rfl rfl rfl rfl rfl (by kernel_rfl) (by kernel_rfl) ⟨[0, 1], by decide, rfl⟩ (qt_rd (rd_load Try.underlying3 rfl rfl (by exact ld_blk 0 rfl rfl))) ?_
        refine ga_firstY 38 (bm 41 549755813887) rfl rfl rfl rfl rfl rfl (by kernel_rfl) (by kernel_rfl) ⟨[0, 1], by decide, rfl⟩ (qt_rd (rd_geq rfl rfl)) (gk_dec (fun h83 => ?_) (fun h83 => ?_))
        · refine ga_firstY 39 (bm 41 1099511627775) rfl rfl rfl rfl rfl rfl (by kernel_rfl) (by kernel_rfl) ⟨[0, 1], by decide, rfl⟩ (qt_rd (rd_pick_t rfl rfl)) ?_
          refine ga_first 40 (bm 41 2199023255551) rfl rfl rfl rfl (by kernel_rfl) (by kernel_rfl) ⟨[0, 1], by decide, rfl⟩ (qt_rd (rd_pick_f rfl rfl)) ?_
          refine ga_end (by kernel_rfl) (.inr ⟨[0, 1], by decide, rfl⟩) ?_
          refine gx_then <| gc_cond_t rfl <| gc_seq <| gc_region <| gl_op <| op_rd rfl (rd_assign rfl) <| gl_nil <| gx_then <| gc_ret <| gx_block_ret <| gx_then_ret <| gx_then_ret <| gx_block_ret <| gx_then_ret <| gx_ret1 (.inl rfl) Try.results35 rfl [] (by decide) ?_
          refine ⟨congrArg Value.bool (Eq.symm ?_), rfl⟩
          exact validB_no (k := k) (by omega) (by rw [lag_eq hn0 hy]; unfold inB; (rw [hzd]; simp; omega))
        refine ga_firstY 39 (bm 41 1099511627775) rfl rfl rfl rfl rfl rfl (by kernel_rfl) (by kernel_rfl) ⟨[0, 1], by decide, rfl⟩ (qt_rd (rd_pick_t rfl rfl)) ?_
        refine ga_first 40 (bm 41 2199023255551) rfl rfl rfl rfl (by kernel_rfl) (by kernel_rfl) ⟨[0, 1], by decide, rfl⟩ (qt_rd (rd_pick_f rfl rfl)) ?_
        refine ga_end (by kernel_rfl) (.inr ⟨[0, 1], by decide, rfl⟩) ?_
        refine gx_then <| gc_cond_f rfl <| gc_skip <| gx_block <| gx_then <| gc_region <| gl_op <| op_rd rfl (rd_move rfl) <| gl_op (op_rd rfl (by exact rd_addN (b := 1) rfl rfl (by omega)) ?_)
        refine gl_op <| op_rd rfl (rd_assign rfl) <| gl_nil <| gx_then ?_
        exact gx_cut (k + 1) ⟨⟨by omega, fun q hq => by
          rcases Nat.lt_or_eq_of_le (Nat.le_of_lt_succ hq) with h | rfl
          · exact hall q h
          · rw [lag_eq hn0 hy]; unfold inB; (rw [hzd]; simp; omega)⟩, by omega⟩ ⟨rfl, rfl, rfl, rfl, trivial⟩ ⟨[1], by decide, rfl⟩
      refine ga_firstY 28 (bm 41 536870911) rfl rfl rfl rfl rfl rfl (by kernel_rfl) (by kernel_rfl) ⟨[0, 1], by decide, rfl⟩ (qt_rd (rd_move rfl)) ?_
      refine ga_firstN 29 (bm 41 1073741823) rfl rfl rfl rfl rfl rfl (by kernel_rfl) (by kernel_rfl) ⟨[0, 1], by decide, rfl⟩ ?_
      refine ga_firstN 30 (bm 41 2147483647) rfl rfl rfl rfl rfl rfl (by kernel_rfl) (by kernel_rfl) ⟨[0, 1], by decide, rfl⟩ ?_
      refine ga_firstN 31 (bm 41 4294967295) rfl rfl rfl rfl rfl rfl (by kernel_rfl) (by kernel_rfl) ⟨[0, 1], by decide, rfl⟩ ?_
      refine ga_firstN 32 (bm 41 8589934591) rfl rfl rfl rfl rfl rfl (by kernel_rfl) (by kernel_rfl) ⟨[0, 1], by decide, rfl⟩ ?_
      refine ga_firstN 33 (bm 41 17179869183) rfl rfl rfl rfl rfl rfl (by kernel_rfl) (by kernel_rfl) ⟨[0, 1], by decide, rfl⟩ ?_
      refine ga_firstN 34 (bm 41 34359738367) rfl rfl rfl rfl rfl rfl (by kernel_rfl) (by kernel_rfl) ⟨[0, 1], by decide, rfl⟩ ?_
      refine ga_firstN 35 (bm 41 68719476735) rfl rfl rfl rfl rfl rfl (by kernel_rfl) (by kernel_rfl) ⟨[0, 1], by decide, rfl⟩ ?_
      refine ga_firstN 36 (bm 41 137438953471) rfl rfl rfl rfl rfl rfl (by kernel_rfl) (by kernel_rfl) ⟨[0, 1], by decide, rfl⟩ ?_
      refine ga_firstN 37 (bm 41 274877906943) rfl rfl rfl rfl rfl rfl (by kernel_rfl) (by kernel_rfl) ⟨[0, 1], by decide, rfl⟩ ?_
      refine ga_firstN 38 (bm 41 549755813887) rfl rfl rfl rfl rfl rfl (by kernel_rfl) (by kernel_rfl) ⟨[0, 1], by decide, rfl⟩ ?_
      refine ga_firstY 39 (bm 41 1099511627775) rfl rfl rfl rfl rfl rfl (by kernel_rfl) (by kernel_rfl) ⟨[0, 1], by decide, rfl⟩ (qt_rd (rd_pick_f rfl rfl)) ?_
      refine ga_first 40 (bm 41 2199023255551) rfl rfl rfl rfl (by kernel_rfl) (by kernel_rfl) ⟨[0, 1], by decide, rfl⟩ (qt_rd (rd_pick_f rfl rfl)) ?_
      refine ga_end (by kernel_rfl) (.inr ⟨[0, 1], by decide, rfl⟩) ?_
      refine gx_then <| gc_cond_f rfl <| gc_skip <| gx_block <| gx_then <| gc_region <| gl_op <| op_rd rfl (rd_move rfl) <| gl_op (op_rd rfl (by exact rd_addN (b := 1) rfl rfl (by omega)) ?_)
      refine gl_op <| op_rd rfl (rd_assign rfl) <| gl_nil <| gx_then ?_
      exact gx_cut (k + 1) ⟨⟨by omega, fun q hq => by
        rcases Nat.lt_or_eq_of_le (Nat.le_of_lt_succ hq) with h | rfl
        · exact hall q h
        · rw [lag_eq hn0 hy]; unfold inB; (simp; omega)⟩, by omega⟩ ⟨rfl, rfl, rfl, rfl, trivial⟩ ⟨[1], by decide, rfl⟩
    refine gl_nil <| gx_then <| gc_cond_f rfl <| gc_exit <| gx_then_exit <| gx_then_exit <| gx_block_exit <| gx_then <| gc_seq <| gc_region <| gl_op <| op_rd rfl (rd_assign rfl) <| gl_nil <| gx_then <| gc_ret <| gx_ret1 (.inl rfl) Try.results35 rfl [] (by decide) ?_
    refine ⟨congrArg Value.bool (Eq.symm ?_), rfl⟩
    rw [validB_yes (fun q hq => hall q (by omega))]
    unfold headB
    rw [hn]
    simp
    omega
  refine gl_op <| op_rd rfl (rd_not rfl) <| gl_op <| op_rd rfl (rd_move rfl) <| gl_no rfl rfl rfl <| gl_no rfl rfl rfl <| gl_no rfl rfl rfl <| gl_op <| op_rd rfl (rd_pick_t rfl rfl) <| gl_op <| op_rd rfl (rd_move rfl) <| gl_no rfl rfl rfl <| gl_no rfl rfl rfl <| gl_no rfl rfl rfl <| gl_op <| op_rd rfl (rd_pick_t rfl rfl) <| gl_op <| op_rd rfl (rd_move rfl) <| gl_no rfl rfl rfl <| gl_no rfl rfl rfl <| gl_no rfl rfl rfl <| gl_op <| op_rd rfl (rd_pick_t rfl rfl) <| gl_op <| op_rd rfl (rd_move rfl) <| gl_no rfl rfl rfl <| gl_no rfl rfl rfl <| gl_no rfl rfl rfl <| gl_op <| op_rd rfl (rd_pick_t rfl rfl) <| gl_nil <| gx_then <| gc_cond_t rfl <| gc_seq ?_
  refine gc_region <| gl_op <| op_rd rfl (rd_assign rfl) <| gl_nil <| gx_then <| gc_ret <| gx_then_ret <| gx_ret1 (.inl rfl) Try.results35 rfl [] (by decide) ?_
  refine ⟨congrArg Value.bool (Eq.symm ?_), rfl⟩
  unfold validB
  rw [show headB x = false by unfold headB; (rw [hn]; rfl), Bool.false_and]
end Go.Proofs.Ytafmcflggikbfaa
namespace Go.Proofs.Ytafmcflggikbfaa
open Go.Gv
open Go.RowKit
open Go.Sn
open Go.Wk
open Go.ChangeShapes Go.WideShapes
namespace Sx
theorem tryLaid : laidOutB Try.prog = true := by kernel_rfl
theorem tryOwn : ownKnob Try.prog.godebug = none := by kernel_rfl
theorem stays {H : Type} {enc : TypeId × Value → H} {W W' : World} (hb : Below W.heap.size W W') {sp : Nat → Bool} : ∀ {ts : List TypeId} {vs : List Value} {ds : List (DataW H)} {p : List MemPlace},
    DataW.TrodAll enc Try.prog W 0 (fun _ => true) true ts vs ds p → (∀ t ∈ ts, Try.prog.readableRec t = true ∧ t < Try.prog.types.size) → (∀ x ∈ p, x.block < W.heap.size) → (∀ x ∈ p, sp x.block = true) → DataW.TrodAll enc Try.prog W' 0 sp true ts vs ds p
  | [], _, _, _, h, _, _, _ => by
    obtain ⟨rfl, rfl, rfl⟩ := trodAll_nil h
    exact h
  | t :: ts, _, _, _, h, hr, hlt, hsp => by
    obtain ⟨v, vs1, d, ds1, a, b, rfl, rfl, rfl, h1, h2⟩ := trodAll_cons h
    have hr1 := hr t (by simp)
    exact ⟨a, b, WideElems.Trod_stays tryLaid hr1.1 hr1.2 h1 (fun x hx => hb.same (hlt x (List.mem_append_left _ hx))) (fun x hx => hsp x (List.mem_append_left _ hx)),
      stays hb h2 (fun u hu => hr u (List.mem_cons_of_mem _ hu)) (fun x hx => hlt x (List.mem_append_right _ hx)) (fun x hx => hsp x (List.mem_append_right _ hx)), rfl⟩
set_option maxRecDepth 100000 in
/-- the law's row: it returned true, and nothing that was there has turned -/
theorem law_post {H : Type} {enc : TypeId × Value → H} {f : Func} {s : ChangeSpec} {fresh handsOn again : Bool} {W W' : World} {args : Array Value} {ds gs : List (DataW H)} {before : List MemPlace}
    (hW : DataW.Whole enc Try.prog f.params.toList s.vars false W args.toList ds gs before) (hv : s.vars = []) (hb : Below W.heap.size W W')
    (hrt : f.resultTypes = #[4]) (hres : (s.fn H ds).results = [.lit (.bool true)]) (hargs : (s.fn H ds).args = ds) (hvars : (s.fn H ds).vars = []) (hr : ∀ t ∈ f.params.toList, Try.prog.readableRec t = true ∧ t < Try.prog.types.size) :
    s.post enc Try.prog f false fresh handsOn again W args (.bool true) W' := by
  have hlt : ∀ x ∈ before, x.block < W.heap.size := fun x hx => by simpa using hW.lt x hx
  have hW0 := hW
  obtain ⟨p, q, hA, hV, rfl, hz, hn⟩ := hW
  rw [hv] at hV
  obtain ⟨rfl, rfl⟩ := trodVars_none hV
  simp only [List.append_nil] at hz hlt hW0
  have hR : ∀ (b : Nat) (sp : Nat → Bool) (hd : Bool), DataW.TrodAll enc Try.prog W' b sp hd f.resultTypes.toList ((Value.bool true).resultList f.resultTypes.size) (s.fn H (ds ++ [])).results [] := fun b sp hd => by
    rw [List.append_nil, hres, hrt]
    exact trodAll_cons_mk (shut_bool Try.underlying4 _) trodAll_mk0
  have hA' : ∀ sp : Nat → Bool, (∀ x ∈ p, sp x.block = true) → DataW.TrodAll enc Try.prog W' 0 sp true f.params.toList args.toList (s.fn H (ds ++ [])).args p := fun sp hsp => by
    rw [List.append_nil, hargs]; exact stays hb hA hr hlt hsp
  have hVv : ∀ sp : Nat → Bool, DataW.TrodVars enc Try.prog W' sp s.vars (s.fn H (ds ++ [])).vars [] := fun sp => by
    rw [List.append_nil, hv, hvars]; rfl
  have hok : ∀ (j : Nat) (t : TypeId) (r : Value), f.resultTypes[j]? = some t → ((Value.bool true).resultList f.resultTypes.size)[j]? = some r → Value.okWide Try.prog W' .any 0 t r := ok_one hrt rfl (okWide_bool_mk Try.underlying4 _)
  refine ⟨ds, [], p, [], p, [], hW0, hR _ _ _, hA' _ (fun x hx => by simpa using hlt x hx), hVv _, World.keptBut_mono (fun x hx => ⟨hx, .inr (by simpa using hx)⟩) (hb.frame _), fun _ => ?_⟩
  refine ⟨hok, _, _, ([] ++ p) ++ [], ⟨[] ++ p, [], trodAll_append (hA' (fun _ => true) (fun _ _ => rfl)) (hR _ _ _), hVv _, rfl, ?_, fun h => by cases h⟩, ?_⟩
  · intro b off hp
    have hp' : MemPlace.cell b off ∈ p := by simpa using hp
    rw [hb.frozen (p := ⟨b, off, none⟩) (hlt _ hp')]
    exact hz b off hp'
  · intro x hx _
    simpa using hx
end Sx
open Go.Deep Go.ChangeShapes Go.WideShapes
namespace Sx
section
variable {H : Type} {enc : TypeId × Value → H} {W : World} {base : Nat} {sp : Nat → Bool} {held : Bool}
theorem openLag {n : Nat} {cs : List Value} {x : DataW H × List MemPlace} (h : DataW.trod enc Try.prog W base sp held n 50 cs = some x) (hw : ∀ b ∈ x.1.weights Try.prog 50, b ≤ reachBytes) : ∃ g : Int × Int, cs = lagC g ∧ True := by
  obtain ⟨k, hl, hf⟩ := fld Try.underlying50 h hw
  rw [show Try.prog.cellsOf 50 = 2 by kernel_rfl] at hl
  obtain ⟨u0, u1, rfl⟩ := len2 hl
  obtain ⟨y0, t0, w0⟩ := hf 0 _ 1 rfl (by kernel_rfl)
  replace t0 : DataW.trod enc Try.prog W base sp held k 3 [u0] = some y0 := t0
  obtain ⟨z0, rfl⟩ := leafI Try.underlying3 t0
  obtain ⟨y1, t1, w1⟩ := hf 1 _ 1 rfl (by kernel_rfl)
  replace t1 : DataW.trod enc Try.prog W base sp held k 2 [u1] = some y1 := t1
  obtain ⟨z1, rfl⟩ := leafI Try.underlying2 t1
  exact ⟨⟨z0, z1⟩, rfl, trivial⟩
theorem openLags {n : Nat} {cs : List Value} {x : DataW H × List MemPlace} (h : DataW.trod enc Try.prog W base sp held n 46 cs = some x) (hw : ∀ b ∈ x.1.weights Try.prog 46, b ≤ reachBytes) :
    ∃ (a : Option Addr) (gs : List (Int × Int)) (cp : Nat), cs = [.slice a gs.length cp] ∧ OldSl W [] a gs.length 2 (gs.flatMap lagC) ∧ gs.length ≤ 140737488355328 ∧ gs.length ≤ cp ∧ ∀ g ∈ gs, (fun _ => True) g :=
  openSlW lagC (fun _ => True) 2 46 50 16 (fun _ => rfl) (by decide) Try.underlying46 (by kernel_rfl) (by kernel_rfl) (by decide) (fun n cs x h hw => openLag h hw) h hw
def JG (W : World) (g : JI) : Prop := g.name.size ≤ 140737488355328 ∧ OldSl W [] g.aa g.after.length 2 (g.after.flatMap lagC) ∧ g.after.length ≤ 140737488355328
theorem openJob {n : Nat} {cs : List Value} {x : DataW H × List MemPlace} (h : DataW.trod enc Try.prog W base sp held n 48 cs = some x) (hw : ∀ b ∈ x.1.weights Try.prog 48, b ≤ reachBytes) : ∃ g : JI, cs = g.cells ∧ JG W g := by
  obtain ⟨k, hl, hf⟩ := fld Try.underlying48 h hw
  rw [show Try.prog.cellsOf 48 = 4 by kernel_rfl] at hl
  obtain ⟨u0, u1, u2, u3, rfl⟩ := len4 hl
  obtain ⟨y0, t0, w0⟩ := hf 0 _ 1 rfl (by kernel_rfl)
  replace t0 : DataW.trod enc Try.prog W base sp held k 9 [u0] = some y0 := t0
  obtain ⟨z0, rfl, b0⟩ := leafS Try.underlying9 t0 w0
  obtain ⟨y1, t1, w1⟩ := hf 1 _ 1 rfl (by kernel_rfl)
  replace t1 : DataW.trod enc Try.prog W base sp held k 3 [u1] = some y1 := t1
  obtain ⟨z1, rfl⟩ := leafI Try.underlying3 t1
  obtain ⟨y2, t2, w2⟩ := hf 2 _ 1 rfl (by kernel_rfl)
  replace t2 : DataW.trod enc Try.prog W base sp held k 2 [u2] = some y2 := t2
  obtain ⟨z2, rfl⟩ := leafI Try.underlying2 t2
  obtain ⟨y3, t3, w3⟩ := hf 3 _ 1 rfl (by kernel_rfl)
  replace t3 : DataW.trod enc Try.prog W base sp held k 46 [u3] = some y3 := t3
  obtain ⟨a3, l3, c3, e3, s3, m3, o3, g3⟩ := openLags t3 w3
  simp only [List.cons.injEq, and_true] at e3
  subst e3
  exact ⟨⟨z0, z1, z2, a3, c3, l3⟩, rfl, b0, s3, m3⟩
theorem openJobs {n : Nat} {cs : List Value} {x : DataW H × List MemPlace} (h : DataW.trod enc Try.prog W base sp held n 22 cs = some x) (hw : ∀ b ∈ x.1.weights Try.prog 22, b ≤ reachBytes) :
    ∃ (a : Option Addr) (gs : List JI) (cp : Nat), cs = [.slice a gs.length cp] ∧ OldSl W [] a gs.length 4 (gs.flatMap JI.cells) ∧ gs.length ≤ 140737488355328 ∧ gs.length ≤ cp ∧ ∀ g ∈ gs, (JG W) g :=
  openSlW JI.cells (JG W) 4 22 48 56 (fun _ => rfl) (by decide) Try.underlying22 (by kernel_rfl) (by kernel_rfl) (by decide) (fun n cs x h hw => openJob h hw) h hw
theorem openHoursW {n : Nat} {cs : List Value} {x : DataW H × List MemPlace} (h : DataW.trod enc Try.prog W base sp held n 25 cs = some x) (hw : ∀ b ∈ x.1.weights Try.prog 25, b ≤ reachBytes) :
    ∃ (a : Option Addr) (gs : List Int) (cp : Nat), cs = [.slice a gs.length cp] ∧ OldSl W [] a gs.length 1 (gs.flatMap (fun z : Int => [intV z])) ∧ gs.length ≤ 140737488355328 ∧ gs.length ≤ cp ∧ ∀ g ∈ gs, (fun _ => True) g :=
  openSlW (fun z : Int => [intV z]) (fun _ => True) 1 25 2 8 (fun _ => rfl) (by decide) Try.underlying25 (by kernel_rfl) (by kernel_rfl) (by decide) (fun n cs x h hw => by
    obtain ⟨z, e, _⟩ := DataW.trod_int Try.underlying2 h
    exact ⟨z, e, trivial⟩) h hw
structure PrG where
  sa : Option Addr
  sc : Nat
  shop : List Int
  a : Option Addr
  c : Nat
  l : List JI
  q : Option Addr
  cq : Nat
  ats : List Int
  kd : Nat
def PrG.cells (g : PrG) : List Value := [.slice g.sa g.shop.length g.sc, .slice g.a g.l.length g.c, .slice g.q g.ats.length g.cq, .int .u8 (g.kd : Int)]
abbrev PrG.val (g : PrG) : Value := .agg #[.slice g.sa g.shop.length g.sc, .slice g.a g.l.length g.c, .slice g.q g.ats.length g.cq, .int .u8 (g.kd : Int)]
structure PrIn (g : PrG) (W : World) : Prop where
  s : OldSl W [] g.sa g.shop.length 1 (g.shop.map intV)
  j : JsIn g.a g.l W []
  t : OldSl W [] g.q g.ats.length 1 (g.ats.map intV)
structure PrLe (g : PrG) : Prop where
  s : g.shop.length ≤ 140737488355328
  j : JsLe g.l
  t : g.ats.length ≤ 140737488355328
  k : g.kd < 256
theorem js_le {l : List JI} (h : l.length ≤ 140737488355328) (hg : ∀ g ∈ l, JG W g) : JsLe l := ⟨h, fun x hx => (hg x hx).2.2, fun x hx => (hg x hx).1⟩
theorem js_in {a : Option Addr} {l : List JI} (h : OldSl W [] a l.length 4 (l.flatMap JI.cells)) (hg : ∀ g ∈ l, JG W g) : JsIn a l W [] := ⟨h, fun x hx => (hg x hx).2.1⟩
theorem ints_in {a : Option Addr} {l : List Int} (h : OldSl W [] a l.length 1 (l.flatMap fun z : Int => [intV z])) : OldSl W [] a l.length 1 (l.map intV) := by rw [← flat_one intV]; exact h
end
end Sx
end Go.Proofs.Ytafmcflggikbfaa
namespace Go.Proofs.Ytafmcflggikbfaa
open Go.Gv
open Go.RowKit
open Go.Sn
open Go.Wk
open Sx
namespace Sx
def lagF (x : JI) : Bool := decide (10 < x.after.length)
def shF (n : Int) : Bool := decide (n < 1) || decide (9 < n)
def atF (t : Int) : Bool := !inB t (-1000000) 1000000
def shopB (s : List Int) : Bool := decide (s.length ≤ 6) && !s.any shF
def farB (l : List JI) : Bool := decide (100 < l.length) || l.any fun x => decide (100 < x.after.length) || decide (1000 < x.name.size)
theorem any_no {α : Type} {l : List α} {f : α → Bool} (h : ∀ (k : Nat) (x : α), l[k]? = some x → f x = false) : l.any f = false := by
  rw [List.any_eq_false]
  intro x hx
  obtain ⟨k, hk⟩ := List.getElem?_of_mem hx
  rw [h k x hk]; decide
theorem any_yes {α : Type} {l : List α} {f : α → Bool} {k : Nat} {x : α} (hx : l[k]? = some x) (h : f x = true) : l.any f = true := List.any_eq_true.2 ⟨x, List.mem_of_getElem? hx, h⟩
theorem snocF {α : Type} {l : List α} {f : α → Bool} {k : Nat} {x : α} (h : ∀ (j : Nat) (y : α), j < k → l[j]? = some y → f y = false) (hx : l[k]? = some x) (hf : f x = false) : ∀ (j : Nat) (y : α), j < k + 1 → l[j]? = some y → f y = false := fun j y hj hy => by
  rcases Nat.lt_or_eq_of_le (Nat.le_of_lt_succ hj) with h1 | rfl
  · exact h j y h1 hy
  · rw [hx] at hy; rw [← Option.some.inj hy]; exact hf
theorem allF {α : Type} {l : List α} {f : α → Bool} {k : Nat} (h : ∀ (j : Nat) (y : α), j < k → l[j]? = some y → f y = false) (hk : l.length ≤ k) : l.any f = false := any_no fun j y hy => h j y (by have := (List.getElem?_eq_some_iff.1 hy).1; omega) hy
theorem get_int {l : List Int} {k : Nat} {x : Int} (h : l[k]? = some x) : (l.map intV)[k]? = some (intV x) := by rw [List.getElem?_map, h]; rfl
end Sx
open Sx
set_option maxRecDepth 100000 in
set_option maxHeartbeats 1000000 in
theorem lag1_ok (x : JI) (w0 : World) : Sp Try.prog 33 [x.val] w0 [] (RV (.bool (lagF x))) := by
  refine spec_enter Try.func33 rfl Try.ntmps33 rfl (Own.refl _) ?_
  simp only [argEnv]
  refine gc_seq <| gc_region <| gl_op (op_box rfl rfl rfl (fun b1 => ?_))
  refine gl_op <| op_rd rfl (rd_assign rfl) <| gl_nil <| gx_then <| gc_seq <| gc_region <| gl_op <| op_rd rfl (rd_fieldAddr rfl (fa_48_3 _)) <| gl_op (op_rd rfl (rd_load Try.underlying46 rfl rfl (by exact ld_blk 0 rfl rfl)) ?_)
  refine gl_op <| op_rd rfl (rd_lenSlice Try.underlying46 rfl) <| gl_op <| op_rd rfl (rd_gtr rfl rfl) <| gl_op <| op_rd rfl (rd_assign rfl) <| gl_nil <| gx_then <| gc_ret <| gx_ret1 (.inl rfl) Try.results33 rfl [] (by decide) ?_
  refine ⟨congrArg Value.bool ?_, rfl⟩
  unfold lagF
  rw [decide_eq_decide]; omega
set_option maxRecDepth 100000 in
set_option maxHeartbeats 1000000 in
theorem indexLag_ok (a : Option Addr) (c : Nat) (l : List JI) (hle : JsLe l) (w0 : World) (hJ : JsIn a l w0 []) : Sp Try.prog 49 [.slice a l.length c, .func (.func 33) #[] #[]] w0 [] (fun v L => ∃ r : Int, v = .int .i64 r ∧ L = [] ∧ (0 ≤ r ↔ l.any (lagF) = true)) := by
  have hln := hle.t
  refine spec_enter Try.func49 rfl Try.ntmps49 rfl (Own.refl _) ?_
  simp only [argEnv]
  refine gc_seq <| gc_region <| gl_op <| op_rd rfl (rd_assign rfl) <| gl_nil <| gx_then <| gc_seq <| gc_seq <| gc_region <| gl_op <| op_rd rfl (rd_move rfl) <| gl_op <| op_rd rfl (rd_lenSlice Try.underlying22 rfl) <| gl_op <| op_rd rfl (rd_move rfl) <| gl_nil <| gx_then <| gc_block <| gc_loopF (ι := Nat) [(0, _), (1, _), (7, _)] [] (fun k => k ≤ l.length ∧ ∀ (j : Nat) y, j < k → l[j]? = some y → (lagF) y = false) (fun k Fr0 => ((8, natV k) :: Fr0)) (fun k Fr0 => Fr0) (fun k => l.length - k) 0 (⟨Nat.zero_le _, fun j y h => absurd h (Nat.not_lt_zero j)⟩) ⟨rfl, rfl, rfl, rfl, trivial⟩ ⟨[], by decide, rfl⟩ ?_
  rintro k ⟨hkk, hall⟩
  refine gc_seq <| gc_region <| gl_op (op_rd rfl (rd_lss rfl rfl) (gk_dec (fun h9 => ?_) (fun h9 => ?_)))
  · obtain ⟨x, hx⟩ := get_some (show k < l.length by omega)
    refine gl_nil <| gx_then <| gc_seq <| gc_cond_t rfl <| gc_skip <| gx_then <| gc_seq <| gc_block <| gc_seq <| gc_region <| gl_op <| op_rd rfl (rd_move rfl) <| gl_op <| op_rd rfl (rd_assign rfl) <| gl_nil <| gx_then <| gc_seq <| gc_region <| gl_op <| op_rd rfl (rd_move rfl) <| gl_op <| op_rd rfl (rd_move rfl) <| gl_op <| op_rd rfl (rd_move rfl) <| gl_op (op_rd rfl (rd_indexOld hJ.t Try.underlying22 ty_48 rfl rfl (by omega) (by omega)) ?_)
    refine gl_op (op_rd rfl (rd_loadAgg Try.underlying48 rfl ty_48 rfl (cs_slN hJ.t (flat_drop_get JI.cells 4 (fun _ => rfl) hx)) rfl) ?_)
    simp only [JI.cells]
    refine gl_op (op_call rfl (vf := []) (vc := []) rfl rfl Try.call33 (fun w1 ho => lag1_ok x w1) ?_)
    rintro _ _ ⟨rfl, rfl⟩
    refine gk_bool (fun hh => ?_) (fun hh => ?_)
    · refine gl_nil <| gx_then <| gc_cond_t rfl <| gc_seq <| gc_region <| gl_op <| op_rd rfl (rd_move rfl) <| gl_op <| op_rd rfl (rd_assign rfl) <| gl_nil <| gx_then <| gc_ret <| gx_block_ret <| gx_then_ret <| gx_then_ret <| gx_block_ret <| gx_then_ret <| gx_ret1 (.inl rfl) Try.results49 rfl [] (by decide) ?_
      exact ⟨_, rfl, rfl, ⟨fun _ => any_yes hx hh, fun _ => by omega⟩⟩
    refine gl_nil <| gx_then <| gc_cond_f rfl <| gc_skip <| gx_block <| gx_then <| gc_region <| gl_op (op_rd rfl (by exact rd_addN (b := 1) rfl rfl (by omega)) ?_)
    refine gl_op <| op_rd rfl (rd_move rfl) <| gl_nil <| gx_then ?_
    exact gx_cut (k + 1) ⟨⟨by omega, snocF hall hx hh⟩, by omega⟩ ⟨rfl, rfl, rfl, rfl, trivial⟩ ⟨[], by decide, rfl⟩
  refine gl_nil <| gx_then <| gc_seq <| gc_cond_f rfl <| gc_exit <| gx_then_exit <| gx_then_exit <| gx_block_exit <| gx_then <| gc_seq <| gc_region <| gl_op <| op_rd rfl (rd_assign rfl) <| gl_nil <| gx_then <| gc_ret <| gx_ret1 (.inl rfl) Try.results49 rfl [] (by decide) ?_
  refine ⟨_, rfl, rfl, ⟨fun h => by omega, fun h => ?_⟩⟩
  rw [allF hall (by omega)] at h; cases h
set_option maxRecDepth 100000 in
set_option maxHeartbeats 1000000 in
theorem containsLag_ok (a : Option Addr) (c : Nat) (l : List JI) (hle : JsLe l) (w0 : World) (hJ : JsIn a l w0 []) : Sp Try.prog 32 [.slice a l.length c, .func (.func 33) #[] #[]] w0 [] (RV (.bool (l.any (lagF)))) := by
  refine spec_enter Try.func32 rfl Try.ntmps32 rfl (Own.refl _) ?_
  simp only [argEnv]
  refine gc_seq <| gc_region <| gl_op <| op_rd rfl (rd_assign rfl) <| gl_nil <| gx_then <| gc_seq <| gc_region <| gl_op <| op_rd rfl (rd_move rfl) <| gl_op <| op_rd rfl (rd_move rfl) <| gl_op (op_call rfl (vf := []) (vc := []) rfl rfl Try.call49 (fun w1 ho => indexLag_ok a c l hle w1 (hJ.at ho)) ?_)
  rintro _ _ ⟨r, rfl, rfl, hr⟩
  refine gl_op <| op_rd rfl (rd_geq rfl rfl) <| gl_op <| op_rd rfl (rd_assign rfl) <| gl_nil <| gx_then <| gc_ret <| gx_ret1 (.inl rfl) Try.results32 rfl [] (by decide) ?_
  refine ⟨congrArg Value.bool ?_, rfl⟩
  rw [Bool.eq_iff_iff, ← hr]; simp
set_option maxRecDepth 100000 in
set_option maxHeartbeats 1000000 in
theorem sh1_ok (n : Int) (w0 : World) : Sp Try.prog 53 [.int .i64 n] w0 [] (RV (.bool (shF n))) := by
  refine spec_enter Try.func53 rfl Try.ntmps53 rfl (Own.refl _) ?_
  simp only [argEnv]
  refine gc_seq <| gc_region <| gl_op <| op_rd rfl (rd_assign rfl) <| gl_nil <| gx_then <| gc_seq <| gc_region <| gl_op <| op_rd rfl (rd_move rfl) <| gl_op (op_rd rfl (rd_lss rfl rfl) (gk_dec (fun hd1 => ?_) (fun hd1 => ?_)))
  · refine gl_op <| op_rd rfl (rd_move rfl) <| gl_no rfl rfl rfl <| gl_no rfl rfl rfl <| gl_op <| op_rd rfl (rd_pick_t rfl rfl) <| gl_op <| op_rd rfl (rd_assign rfl) <| gl_nil <| gx_then <| gc_ret <| gx_ret1 (.inl rfl) Try.results53 rfl [] (by decide) ?_
    refine ⟨congrArg Value.bool (Eq.symm ?_), rfl⟩
    unfold shF
    (simp [*]; done)
  refine gl_op <| op_rd rfl (rd_move rfl) <| gl_yes rfl rfl <| op_rd rfl (rd_move rfl) <| gl_yes rfl rfl <| op_rd rfl (rd_gtr rfl rfl) <| gl_op <| op_rd rfl (rd_pick_f rfl rfl) <| gl_op <| op_rd rfl (rd_assign rfl) <| gl_nil <| gx_then <| gc_ret <| gx_ret1 (.inl rfl) Try.results53 rfl [] (by decide) ?_
  refine ⟨congrArg Value.bool (Eq.symm ?_), rfl⟩
  unfold shF
  (simp [*]; done)
set_option maxRecDepth 100000 in
set_option maxHeartbeats 1000000 in
theorem indexSh_ok (a : Option Addr) (c : Nat) (l : List Int) (hl : l.length ≤ 140737488355328) (w0 : World) (hL : OldSl w0 [] a l.length 1 (l.map intV)) : Sp Try.prog 68 [.slice a l.length c, .func (.func 53) #[] #[]] w0 [] (fun v L => ∃ r : Int, v = .int .i64 r ∧ L = [] ∧ (0 ≤ r ↔ l.any (shF) = true)) := by
  refine spec_enter Try.func68 rfl Try.ntmps68 rfl (Own.refl _) ?_
  simp only [argEnv]
  refine gc_seq <| gc_region <| gl_op <| op_rd rfl (rd_assign rfl) <| gl_nil <| gx_then <| gc_seq <| gc_seq <| gc_region <| gl_op <| op_rd rfl (rd_move rfl) <| gl_op <| op_rd rfl (rd_lenSlice Try.underlying29 rfl) <| gl_op <| op_rd rfl (rd_move rfl) <| gl_nil <| gx_then <| gc_block <| gc_loopF (ι := Nat) [(0, _), (1, _), (7, _)] [] (fun k => k ≤ l.length ∧ ∀ (j : Nat) y, j < k → l[j]? = some y → (shF) y = false) (fun k Fr0 => ((8, natV k) :: Fr0)) (fun k Fr0 => Fr0) (fun k => l.length - k) 0 (⟨Nat.zero_le _, fun j y h => absurd h (Nat.not_lt_zero j)⟩) ⟨rfl, rfl, rfl, rfl, trivial⟩ ⟨[], by decide, rfl⟩ ?_
  rintro k ⟨hkk, hall⟩
  refine gc_seq <| gc_region <| gl_op (op_rd rfl (rd_lss rfl rfl) (gk_dec (fun h9 => ?_) (fun h9 => ?_)))
  · obtain ⟨x, hx⟩ := get_some (show k < l.length by omega)
    refine gl_nil <| gx_then <| gc_seq <| gc_cond_t rfl <| gc_skip <| gx_then <| gc_seq <| gc_block <| gc_seq <| gc_region <| gl_op <| op_rd rfl (rd_move rfl) <| gl_op <| op_rd rfl (rd_assign rfl) <| gl_nil <| gx_then <| gc_seq <| gc_region <| gl_op <| op_rd rfl (rd_move rfl) <| gl_op <| op_rd rfl (rd_move rfl) <| gl_op <| op_rd rfl (rd_move rfl) <| gl_op (op_rd rfl (rd_indexOld1 hL Try.underlying29 ty_3 rfl rfl (by omega) (by omega)) ?_)
    refine gl_op <| op_rd rfl (rd_load Try.underlying3 rfl rfl (ld_slN hL (get_int hx))) <| gl_op (op_call rfl (vf := []) (vc := []) rfl rfl Try.call53 (fun w1 ho => sh1_ok x w1) ?_)
    rintro _ _ ⟨rfl, rfl⟩
    refine gk_bool (fun hh => ?_) (fun hh => ?_)
    · refine gl_nil <| gx_then <| gc_cond_t rfl <| gc_seq <| gc_region <| gl_op <| op_rd rfl (rd_move rfl) <| gl_op <| op_rd rfl (rd_assign rfl) <| gl_nil <| gx_then <| gc_ret <| gx_block_ret <| gx_then_ret <| gx_then_ret <| gx_block_ret <| gx_then_ret <| gx_ret1 (.inl rfl) Try.results68 rfl [] (by decide) ?_
      exact ⟨_, rfl, rfl, ⟨fun _ => any_yes hx hh, fun _ => by omega⟩⟩
    refine gl_nil <| gx_then <| gc_cond_f rfl <| gc_skip <| gx_block <| gx_then <| gc_region <| gl_op (op_rd rfl (by exact rd_addN (b := 1) rfl rfl (by omega)) ?_)
    refine gl_op <| op_rd rfl (rd_move rfl) <| gl_nil <| gx_then ?_
    exact gx_cut (k + 1) ⟨⟨by omega, snocF hall hx hh⟩, by omega⟩ ⟨rfl, rfl, rfl, rfl, trivial⟩ ⟨[], by decide, rfl⟩
  refine gl_nil <| gx_then <| gc_seq <| gc_cond_f rfl <| gc_exit <| gx_then_exit <| gx_then_exit <| gx_block_exit <| gx_then <| gc_seq <| gc_region <| gl_op <| op_rd rfl (rd_assign rfl) <| gl_nil <| gx_then <| gc_ret <| gx_ret1 (.inl rfl) Try.results68 rfl [] (by decide) ?_
  refine ⟨_, rfl, rfl, ⟨fun h => by omega, fun h => ?_⟩⟩
  rw [allF hall (by omega)] at h; cases h
set_option maxRecDepth 100000 in
set_option maxHeartbeats 1000000 in
theorem containsSh_ok (a : Option Addr) (c : Nat) (l : List Int) (hl : l.length ≤ 140737488355328) (w0 : World) (hL : OldSl w0 [] a l.length 1 (l.map intV)) : Sp Try.prog 52 [.slice a l.length c, .func (.func 53) #[] #[]] w0 [] (RV (.bool (l.any (shF)))) := by
  refine spec_enter Try.func52 rfl Try.ntmps52 rfl (Own.refl _) ?_
  simp only [argEnv]
  refine gc_seq <| gc_region <| gl_op <| op_rd rfl (rd_assign rfl) <| gl_nil <| gx_then <| gc_seq <| gc_region <| gl_op <| op_rd rfl (rd_move rfl) <| gl_op <| op_rd rfl (rd_move rfl) <| gl_op (op_call rfl (vf := []) (vc := []) rfl rfl Try.call68 (fun w1 ho => indexSh_ok a c l hl w1 (hL.at ho)) ?_)
  rintro _ _ ⟨r, rfl, rfl, hr⟩
  refine gl_op <| op_rd rfl (rd_geq rfl rfl) <| gl_op <| op_rd rfl (rd_assign rfl) <| gl_nil <| gx_then <| gc_ret <| gx_ret1 (.inl rfl) Try.results52 rfl [] (by decide) ?_
  refine ⟨congrArg Value.bool ?_, rfl⟩
  rw [Bool.eq_iff_iff, ← hr]; simp
set_option maxRecDepth 100000 in
set_option maxHeartbeats 1000000 in
theorem at1_ok (t : Int) (w0 : World) : Sp Try.prog 39 [.int .i64 t] w0 [] (RV (.bool (atF t))) := by
  refine spec_enter Try.func39 rfl Try.ntmps39 rfl (Own.refl _) ?_
  simp only [argEnv]
  refine gc_seq <| gc_region <| gl_op <| op_rd rfl (rd_assign rfl) <| gl_nil <| gx_then <| gc_seq <| gc_region <| gl_op <| op_rd rfl (rd_move rfl) <| gl_op (op_call rfl (vf := []) (vc := []) rfl rfl Try.call40 (fun w1 ho => in_ok _ _ _ w1) ?_)
  rintro _ _ ⟨rfl, rfl⟩
  refine gk_bool (fun hi => ?_) (fun hi => ?_)
  · refine gl_op <| op_rd rfl (rd_not rfl) <| gl_op <| op_rd rfl (rd_assign rfl) <| gl_nil <| gx_then <| gc_ret <| gx_ret1 (.inl rfl) Try.results39 rfl [] (by decide) ?_
    refine ⟨congrArg Value.bool (Eq.symm ?_), rfl⟩
    unfold atF
    rw [hi]
  refine gl_op <| op_rd rfl (rd_not rfl) <| gl_op <| op_rd rfl (rd_assign rfl) <| gl_nil <| gx_then <| gc_ret <| gx_ret1 (.inl rfl) Try.results39 rfl [] (by decide) ?_
  refine ⟨congrArg Value.bool (Eq.symm ?_), rfl⟩
  unfold atF
  rw [hi]
set_option maxRecDepth 100000 in
set_option maxHeartbeats 1000000 in
theorem indexAt_ok (a : Option Addr) (c : Nat) (l : List Int) (hl : l.length ≤ 140737488355328) (w0 : World) (hL : OldSl w0 [] a l.length 1 (l.map intV)) : Sp Try.prog 54 [.slice a l.length c, .func (.func 39) #[] #[]] w0 [] (fun v L => ∃ r : Int, v = .int .i64 r ∧ L = [] ∧ (0 ≤ r ↔ l.any (atF) = true)) := by
  refine spec_enter Try.func54 rfl Try.ntmps54 rfl (Own.refl _) ?_
  simp only [argEnv]
  refine gc_seq <| gc_region <| gl_op <| op_rd rfl (rd_assign rfl) <| gl_nil <| gx_then <| gc_seq <| gc_seq <| gc_region <| gl_op <| op_rd rfl (rd_move rfl) <| gl_op <| op_rd rfl (rd_lenSlice Try.underlying25 rfl) <| gl_op <| op_rd rfl (rd_move rfl) <| gl_nil <| gx_then <| gc_block <| gc_loopF (ι := Nat) [(0, _), (1, _), (7, _)] [] (fun k => k ≤ l.length ∧ ∀ (j : Nat) y, j < k → l[j]? = some y → (atF) y = false) (fun k Fr0 => ((8, natV k) :: Fr0)) (fun k Fr0 => Fr0) (fun k => l.length - k) 0 (⟨Nat.zero_le _, fun j y h => absurd h (Nat.not_lt_zero j)⟩) ⟨rfl, rfl, rfl, rfl, trivial⟩ ⟨[], by decide, rfl⟩ ?_
  rintro k ⟨hkk, hall⟩
  refine gc_seq <| gc_region <| gl_op (op_rd rfl (rd_lss rfl rfl) (gk_dec (fun h9 => ?_) (fun h9 => ?_)))
  · obtain ⟨x, hx⟩ := get_some (show k < l.length by omega)
    refine gl_nil <| gx_then <| gc_seq <| gc_cond_t rfl <| gc_skip <| gx_then <| gc_seq <| gc_block <| gc_seq <| gc_region <| gl_op <| op_rd rfl (rd_move rfl) <| gl_op <| op_rd rfl (rd_assign rfl) <| gl_nil <| gx_then <| gc_seq <| gc_region <| gl_op <| op_rd rfl (rd_move rfl) <| gl_op <| op_rd rfl (rd_move rfl) <| gl_op <| op_rd rfl (rd_move rfl) <| gl_op (op_rd rfl (rd_indexOld1 hL Try.underlying25 ty_2 rfl rfl (by omega) (by omega)) ?_)
    refine gl_op <| op_rd rfl (rd_load Try.underlying2 rfl rfl (ld_slN hL (get_int hx))) <| gl_op (op_call rfl (vf := []) (vc := []) rfl rfl Try.call39 (fun w1 ho => at1_ok x w1) ?_)
    rintro _ _ ⟨rfl, rfl⟩
    refine gk_bool (fun hh => ?_) (fun hh => ?_)
    · refine gl_nil <| gx_then <| gc_cond_t rfl <| gc_seq <| gc_region <| gl_op <| op_rd rfl (rd_move rfl) <| gl_op <| op_rd rfl (rd_assign rfl) <| gl_nil <| gx_then <| gc_ret <| gx_block_ret <| gx_then_ret <| gx_then_ret <| gx_block_ret <| gx_then_ret <| gx_ret1 (.inl rfl) Try.results54 rfl [] (by decide) ?_
      exact ⟨_, rfl, rfl, ⟨fun _ => any_yes hx hh, fun _ => by omega⟩⟩
    refine gl_nil <| gx_then <| gc_cond_f rfl <| gc_skip <| gx_block <| gx_then <| gc_region <| gl_op (op_rd rfl (by exact rd_addN (b := 1) rfl rfl (by omega)) ?_)
    refine gl_op <| op_rd rfl (rd_move rfl) <| gl_nil <| gx_then ?_
    exact gx_cut (k + 1) ⟨⟨by omega, snocF hall hx hh⟩, by omega⟩ ⟨rfl, rfl, rfl, rfl, trivial⟩ ⟨[], by decide, rfl⟩
  refine gl_nil <| gx_then <| gc_seq <| gc_cond_f rfl <| gc_exit <| gx_then_exit <| gx_then_exit <| gx_block_exit <| gx_then <| gc_seq <| gc_region <| gl_op <| op_rd rfl (rd_assign rfl) <| gl_nil <| gx_then <| gc_ret <| gx_ret1 (.inl rfl) Try.results54 rfl [] (by decide) ?_
  refine ⟨_, rfl, rfl, ⟨fun h => by omega, fun h => ?_⟩⟩
  rw [allF hall (by omega)] at h; cases h
set_option maxRecDepth 100000 in
set_option maxHeartbeats 1000000 in
theorem containsAt_ok (a : Option Addr) (c : Nat) (l : List Int) (hl : l.length ≤ 140737488355328) (w0 : World) (hL : OldSl w0 [] a l.length 1 (l.map intV)) : Sp Try.prog 38 [.slice a l.length c, .func (.func 39) #[] #[]] w0 [] (RV (.bool (l.any (atF)))) := by
  refine spec_enter Try.func38 rfl Try.ntmps38 rfl (Own.refl _) ?_
  simp only [argEnv]
  refine gc_seq <| gc_region <| gl_op <| op_rd rfl (rd_assign rfl) <| gl_nil <| gx_then <| gc_seq <| gc_region <| gl_op <| op_rd rfl (rd_move rfl) <| gl_op <| op_rd rfl (rd_move rfl) <| gl_op (op_call rfl (vf := []) (vc := []) rfl rfl Try.call54 (fun w1 ho => indexAt_ok a c l hl w1 (hL.at ho)) ?_)
  rintro _ _ ⟨r, rfl, rfl, hr⟩
  refine gl_op <| op_rd rfl (rd_geq rfl rfl) <| gl_op <| op_rd rfl (rd_assign rfl) <| gl_nil <| gx_then <| gc_ret <| gx_ret1 (.inl rfl) Try.results38 rfl [] (by decide) ?_
  refine ⟨congrArg Value.bool ?_, rfl⟩
  rw [Bool.eq_iff_iff, ← hr]; simp
set_option maxRecDepth 100000 in
set_option maxHeartbeats 1000000 in
theorem shopped_ok (a : Option Addr) (c : Nat) (l : List Int) (hl : l.length ≤ 140737488355328) (w0 : World) (hL : OldSl w0 [] a l.length 1 (l.map intV)) : Sp Try.prog 37 [.slice a l.length c] w0 [] (RV (.bool (shopB l))) := by
  refine spec_enter Try.func37 rfl Try.ntmps37 rfl (Own.refl _) ?_
  simp only [argEnv]
  refine gc_seq <| gc_region <| gl_op <| op_rd rfl (rd_assign rfl) <| gl_nil <| gx_then <| gc_seq <| gc_region <| gl_op <| op_rd rfl (rd_move rfl) <| gl_op <| op_rd rfl (rd_lenSlice Try.underlying29 rfl) <| gl_op (op_rd rfl (rd_leq rfl rfl) (gk_dec (fun h5 => ?_) (fun h5 => ?_)))
  · refine gl_op <| op_rd rfl (rd_move rfl) <| gl_yes rfl rfl <| op_rd rfl (rd_move rfl) <| gl_yes rfl rfl (op_call rfl (vf := []) (vc := []) rfl rfl Try.call52 (fun w1 ho => containsSh_ok a c l hl w1 (hL.at ho)) ?_)
    rintro _ _ ⟨rfl, rfl⟩
    refine gk_bool (fun hs => ?_) (fun hs => ?_)
    · refine gl_yes rfl rfl <| op_rd rfl (rd_not rfl) <| gl_op <| op_rd rfl (rd_pick_t rfl rfl) <| gl_op <| op_rd rfl (rd_assign rfl) <| gl_nil <| gx_then <| gc_ret <| gx_ret1 (.inl rfl) Try.results37 rfl [] (by decide) ?_
      refine ⟨congrArg Value.bool (Eq.symm ?_), rfl⟩
      unfold shopB
      (rw [hs]; simp; done)
    refine gl_yes rfl rfl <| op_rd rfl (rd_not rfl) <| gl_op <| op_rd rfl (rd_pick_t rfl rfl) <| gl_op <| op_rd rfl (rd_assign rfl) <| gl_nil <| gx_then <| gc_ret <| gx_ret1 (.inl rfl) Try.results37 rfl [] (by decide) ?_
    refine ⟨congrArg Value.bool (Eq.symm ?_), rfl⟩
    unfold shopB
    (rw [hs]; simp; omega)
  refine gl_op <| op_rd rfl (rd_move rfl) <| gl_no rfl rfl rfl <| gl_no rfl rfl rfl <| gl_no rfl rfl rfl <| gl_op <| op_rd rfl (rd_pick_f rfl rfl) <| gl_op <| op_rd rfl (rd_assign rfl) <| gl_nil <| gx_then <| gc_ret <| gx_ret1 (.inl rfl) Try.results37 rfl [] (by decide) ?_
  refine ⟨congrArg Value.bool (Eq.symm ?_), rfl⟩
  unfold shopB
  (simp; omega)
set_option maxRecDepth 100000 in
set_option maxHeartbeats 1000000 in
theorem far_ok (a : Option Addr) (c : Nat) (l : List JI) (hle : JsLe l) (w0 : World) (hJ : JsIn a l w0 []) : Sp Try.prog 8 [.slice a l.length c] w0 [] (RV (.bool (farB l))) := by
  have hln := hle.t
  refine spec_enter Try.func8 rfl Try.ntmps8 rfl (Own.refl _) ?_
  simp only [argEnv]
  refine gc_seq <| gc_region <| gl_op <| op_rd rfl (rd_assign rfl) <| gl_nil <| gx_then <| gc_seq <| gc_seq <| gc_region <| gl_op <| op_rd rfl (rd_move rfl) <| gl_op <| op_rd rfl (rd_lenSlice Try.underlying22 rfl) <| gl_op (op_rd rfl (rd_gtr rfl rfl) (gk_dec (fun h6 => ?_) (fun h6 => ?_)))
  · refine gl_nil <| gx_then <| gc_cond_t rfl <| gc_seq <| gc_region <| gl_op <| op_rd rfl (rd_assign rfl) <| gl_nil <| gx_then <| gc_ret <| gx_then_ret <| gx_ret1 (.inl rfl) Try.results8 rfl [] (by decide) ?_
    refine ⟨congrArg Value.bool (Eq.symm ?_), rfl⟩
    unfold farB
    simp; omega
  refine gl_nil <| gx_then <| gc_cond_f rfl <| gc_skip <| gx_then <| gc_seq <| gc_seq <| gc_region <| gl_op <| op_rd rfl (rd_assign rfl) <| gl_nil <| gx_then <| gc_block <| gc_loopF (ι := Nat) [(0, _)] [] (fun k => k ≤ l.length ∧ ∀ (j : Nat) y, j < k → l[j]? = some y → (fun x : JI => decide (100 < x.after.length) || decide (1000 < x.name.size)) y = false) (fun k Fr0 => ((3, natV k) :: Fr0)) (fun k Fr0 => Fr0) (fun k => l.length - k) 0 (⟨Nat.zero_le _, fun j y h => absurd h (Nat.not_lt_zero j)⟩) ⟨rfl, rfl, trivial⟩ ⟨[], by decide, rfl⟩ ?_
  rintro k ⟨hkk, hall⟩
  refine gc_seq <| gc_seq <| gc_region <| gl_op <| op_rd rfl (rd_move rfl) <| gl_op <| op_rd rfl (rd_move rfl) <| gl_op <| op_rd rfl (rd_lenSlice Try.underlying22 rfl) <| gl_op (op_rd rfl (rd_lss rfl rfl) (gk_dec (fun h10 => ?_) (fun h10 => ?_)))
  · obtain ⟨x, hx⟩ := get_some (show k < l.length by omega)
    have hln1 := hle.r x (List.mem_of_getElem? hx)
    have hln2 := hle.n x (List.mem_of_getElem? hx)
    refine gl_nil <| gx_then <| gc_cond_t rfl <| gc_skip <| gx_then <| gc_seq <| gc_block <| gc_seq <| gc_region <| gl_op <| op_rd rfl (rd_move rfl) <| gl_op <| op_rd rfl (rd_move rfl) <| gl_op (op_rd rfl (rd_indexOld hJ.t Try.underlying22 ty_48 rfl rfl (by omega) (by omega)) ?_)
    refine gl_op <| op_rd rfl (rd_fieldAddr rfl (fa_48_3 _)) <| gl_op (op_rd rfl (rd_load Try.underlying46 rfl rfl (ld_slf hJ.t (get_flat JI.cells 4 (fun _ => rfl) hx (j := 3) (by decide) rfl))) ?_)
    refine gl_op <| op_rd rfl (rd_lenSlice Try.underlying46 rfl) <| gl_op (op_rd rfl (rd_gtr rfl rfl) (gk_dec (fun h19 => ?_) (fun h19 => ?_)))
    · refine gl_op <| op_rd rfl (rd_move rfl) <| gl_no rfl rfl rfl <| gl_no rfl rfl rfl <| gl_no rfl rfl rfl <| gl_no rfl rfl rfl <| gl_no rfl rfl rfl <| gl_no rfl rfl rfl <| gl_no rfl rfl rfl <| gl_op <| op_rd rfl (rd_pick_t rfl rfl) <| gl_nil <| gx_then <| gc_cond_t rfl <| gc_seq <| gc_region <| gl_op <| op_rd rfl (rd_assign rfl) <| gl_nil <| gx_then <| gc_ret <| gx_block_ret <| gx_then_ret <| gx_then_ret <| gx_block_ret <| gx_then_ret <| gx_ret1 (.inl rfl) Try.results8 rfl [] (by decide) ?_
      refine ⟨congrArg Value.bool (Eq.symm ?_), rfl⟩
      unfold farB
      rw [any_yes (f := (fun x : JI => decide (100 < x.after.length) || decide (1000 < x.name.size))) hx (by simp; omega)]; simp
    refine gl_op <| op_rd rfl (rd_move rfl) <| gl_yes rfl rfl <| op_rd rfl (rd_move rfl) <| gl_yes rfl rfl <| op_rd rfl (rd_move rfl) <| gl_yes rfl rfl (op_rd rfl (rd_indexOld hJ.t Try.underlying22 ty_48 rfl rfl (by omega) (by omega)) ?_)
    refine gl_yes rfl rfl <| op_rd rfl (rd_fieldAddr rfl (fa_48_0 _)) <| gl_yes rfl rfl (op_rd rfl (rd_load Try.underlying9 rfl rfl (ld_slf hJ.t (get_flat JI.cells 4 (fun _ => rfl) hx (j := 0) (by decide) rfl))) ?_)
    refine gl_yes rfl rfl <| op_rd rfl (rd_lenString Try.underlying9 rfl) <| gl_yes rfl rfl (op_rd rfl (rd_gtr rfl rfl) (gk_dec (fun h27 => ?_) (fun h27 => ?_)))
    · refine gl_op <| op_rd rfl (rd_pick_f rfl rfl) <| gl_nil <| gx_then <| gc_cond_t rfl <| gc_seq <| gc_region <| gl_op <| op_rd rfl (rd_assign rfl) <| gl_nil <| gx_then <| gc_ret <| gx_block_ret <| gx_then_ret <| gx_then_ret <| gx_block_ret <| gx_then_ret <| gx_ret1 (.inl rfl) Try.results8 rfl [] (by decide) ?_
      refine ⟨congrArg Value.bool (Eq.symm ?_), rfl⟩
      unfold farB
      rw [any_yes (f := (fun x : JI => decide (100 < x.after.length) || decide (1000 < x.name.size))) hx (by simp; omega)]; simp
    refine gl_op <| op_rd rfl (rd_pick_f rfl rfl) <| gl_nil <| gx_then <| gc_cond_f rfl <| gc_skip <| gx_block <| gx_then ?_
    have hf : (fun x : JI => decide (100 < x.after.length) || decide (1000 < x.name.size)) x = false := by simp; omega
    refine gc_region <| gl_op <| op_rd rfl (rd_move rfl) <| gl_op (op_rd rfl (by exact rd_addN (b := 1) rfl rfl (by omega)) ?_)
    refine gl_op <| op_rd rfl (rd_assign rfl) <| gl_nil <| gx_then ?_
    exact gx_cut (k + 1) ⟨⟨by omega, snocF hall hx hf⟩, by omega⟩ ⟨rfl, rfl, trivial⟩ ⟨[], by decide, rfl⟩
  refine gl_nil <| gx_then <| gc_cond_f rfl <| gc_exit <| gx_then_exit <| gx_then_exit <| gx_block_exit <| gx_then <| gc_seq <| gc_region <| gl_op <| op_rd rfl (rd_assign rfl) <| gl_nil <| gx_then <| gc_ret <| gx_ret1 (.inl rfl) Try.results8 rfl [] (by decide) ?_
  refine ⟨congrArg Value.bool (Eq.symm ?_), rfl⟩
  unfold farB
  rw [allF hall (by omega)]; simp; omega
end Go.Proofs.Ytafmcflggikbfaa
namespace Go.Proofs.Ytafmcflggikbfaa
open Go.Gv
open Go.RowKit
open Go.Sn
open Go.Wk
open Sx
namespace Sx
def goneI (n : Nat) (pre : Nat → List Nat) (r i : Nat) : List Bool := (List.range i).foldl (goneStep pre) (goneP n pre r)
theorem goneI_zero (n : Nat) (pre : Nat → List Nat) (r : Nat) : goneI n pre r 0 = goneP n pre r := rfl
theorem goneI_all (n : Nat) (pre : Nat → List Nat) (r : Nat) : goneI n pre r n = goneP n pre (r + 1) := rfl
theorem goneI_next (n : Nat) (pre : Nat → List Nat) (r i : Nat) : goneI n pre r (i + 1) = goneStep pre (goneI n pre r i) i := by
  unfold goneI; rw [List.range_succ, List.foldl_append]; rfl
theorem goneI_len (n : Nat) (pre : Nat → List Nat) (r i : Nat) : (goneI n pre r i).length = n := by
  unfold goneI; rw [fold_len, goneP_len]
def rdyP (g : List Bool) (ps : List Nat) (k : Nat) : Bool := (ps.take k).all fun p => g.getD p false
theorem rdyP_next {g : List Bool} {ps : List Nat} {k p : Nat} (h : ps[k]? = some p) : rdyP g ps (k + 1) = (rdyP g ps k && g.getD p false) := by
  unfold rdyP; rw [take_at h, List.all_append]; simp
theorem rdyP_all {g : List Bool} {ps : List Nat} {k : Nat} (h : ps.length ≤ k) : rdyP g ps k = ps.all fun p => g.getD p false := by
  unfold rdyP; rw [List.take_of_length_le h]
theorem get_bool {g : List Bool} {p : Nat} (h : p < g.length) : (g.map boolV)[p]? = some (boolV (g.getD p false)) := by
  rw [List.getElem?_map, List.getElem?_eq_getElem h, List.getD_eq_getElem?_getD, List.getElem?_eq_getElem h]; rfl
theorem set_bool (g : List Bool) (i : Nat) (b : Bool) : (g.map boolV).set i (.bool b) = (g.set i b).map boolV := by rw [List.map_set]
theorem pre_at {l : List Jb} {i k : Nat} {x : Jb} {y : Nat × Nat} (hx : l[i]? = some x) (hy : x.after[k]? = some y) : (preOf l i)[k]? = some y.1 := by
  unfold preOf; rw [jb_at hx, List.getElem?_map, hy]; rfl
theorem pre_len {l : List Jb} {i : Nat} {x : Jb} (hx : l[i]? = some x) : (preOf l i).length = x.after.length := by unfold preOf; rw [jb_at hx, List.length_map]
theorem lag_lt {l : List Jb} (hj : JOk l) {i k : Nat} {x : Jb} {y : Nat × Nat} (hx : l[i]? = some x) (hy : x.after[k]? = some y) : y.1 < l.length ∧ y.1 ≠ i ∧ y.2 ≤ 1000 := hj.job i (List.getElem?_eq_some_iff.1 hx).1 y (by rw [jb_at hx]; exact List.mem_of_getElem? hy)
theorem circle_no {n : Nat} {pre : Nat → List Nat} (h : ∀ q, q < n → (goneP n pre n).getD q false = true) : circleP n pre = false := by
  unfold circleP
  rw [List.any_eq_false]
  intro i hi
  rw [h i (List.mem_range.1 hi)]; decide
theorem circle_yes {n i : Nat} {pre : Nat → List Nat} (hi : i < n) (h : (goneP n pre n).getD i false = false) : circleP n pre = true := by
  unfold circleP
  exact List.any_eq_true.2 ⟨i, List.mem_range.2 hi, by rw [h]; rfl⟩
end Sx
open Sx
set_option maxRecDepth 100000 in
set_option maxHeartbeats 1000000 in
theorem circle_ok (a : Option Addr) (c : Nat) (l : List Jb) (hj : JOk l) (w0 : World) (hJ : JnIn a l w0 []) : Sp Try.prog 36 [.slice a l.length c] w0 [] (RV (.bool (circleP l.length (preOf l)))) := by
  have hln := hj.n
  refine spec_enter Try.func36 rfl Try.ntmps36 rfl (Own.refl _) ?_
  simp only [argEnv]
  refine gc_seq <| gc_region <| gl_op <| op_rd rfl (rd_assign rfl) <| gl_nil <| gx_then <| gc_seq <| gc_region <| gl_op <| op_rd rfl (rd_move rfl) <| gl_op <| op_rd rfl (rd_lenSlice Try.underlying22 rfl) <| gl_op (op_makeSlice (l.length) Try.underlying74 ty_4 rfl rfl rfl (by omega) (by omega) (by omega) (by omega) (fun b11 => ?_))
  refine gl_op <| op_rd rfl (rd_assign rfl) <| gl_nil <| gx_then <| gc_seq <| gc_seq ?_
  rw [made_one _ rfl, show List.replicate l.length (Value.bool false) = (List.replicate l.length false).map boolV by simp, show List.replicate l.length false = goneP l.length (preOf l) 0 from rfl]
  refine gc_region <| gl_op <| op_rd rfl (rd_assign rfl) <| gl_nil <| gx_then <| gc_block <| gc_loopF (ι := Nat) [(0, _), (3, _)] [] (fun r => r ≤ l.length) (fun r Fr0 => ((4, natV r) :: Fr0)) (fun r Fr0 => (.row 4 1 (some b11) l.length l.length ((goneP l.length (preOf l) r).map boolV) :: Fr0)) (fun r => l.length - r) 0 (Nat.zero_le _) ⟨rfl, rfl, rfl, trivial⟩ ⟨[0], by decide, rfl⟩ ?_
  rintro r hr
  refine gc_seq <| gc_seq <| gc_region <| gl_op <| op_rd rfl (rd_move rfl) <| gl_op <| op_rd rfl (rd_move rfl) <| gl_op <| op_rd rfl (rd_lenSlice Try.underlying22 rfl) <| gl_op (op_rd rfl (rd_lss rfl rfl) (gk_dec (fun h15 => ?_) (fun h15 => ?_)))
  · refine gl_nil <| gx_then <| gc_cond_t rfl <| gc_skip <| gx_then <| gc_seq <| gc_block <| gc_seq ?_
    rw [← goneI_zero]
    refine gc_region <| gl_op <| op_rd rfl (rd_assign rfl) <| gl_nil <| gx_then <| gc_block <| gc_loopF (ι := Nat) [(0, _), (3, _), (4, _)] [] (fun i => i ≤ l.length) (fun i Fr0 => ((5, natV i) :: Fr0)) (fun i Fr0 => (.row 4 1 (some b11) l.length l.length ((goneI l.length (preOf l) r i).map boolV) :: Fr0)) (fun i => l.length - i) 0 (Nat.zero_le _) ⟨rfl, rfl, rfl, rfl, trivial⟩ ⟨[0], by decide, rfl⟩ ?_
    rintro i hi
    refine gc_seq <| gc_seq <| gc_region <| gl_op <| op_rd rfl (rd_move rfl) <| gl_op <| op_rd rfl (rd_move rfl) <| gl_op <| op_rd rfl (rd_lenSlice Try.underlying22 rfl) <| gl_op (op_rd rfl (rd_lss rfl rfl) (gk_dec (fun h21 => ?_) (fun h21 => ?_)))
    · obtain ⟨x, hx⟩ := get_some (show i < l.length by omega)
      have hxl := hj.lags x (List.mem_of_getElem? hx)
      refine gl_nil <| gx_then <| gc_cond_t rfl <| gc_skip <| gx_then <| gc_seq <| gc_block <| gc_seq <| gc_region <| gl_op <| op_rd rfl (rd_assign rfl) <| gl_nil <| gx_then <| gc_seq <| gc_seq <| gc_region <| gl_op <| op_rd rfl (rd_assign rfl) <| gl_nil <| gx_then <| gc_block <| gc_loopF (ι := Nat) [(0, _), (3, _), (4, _), (5, _)] [_] (fun k => k ≤ x.after.length) (fun k Fr0 => ((6, .bool (rdyP (goneI l.length (preOf l) r i) (preOf l i) k)) :: (7, natV k) :: Fr0)) (fun k Fr0 => Fr0) (fun k => x.after.length - k) 0 (Nat.zero_le _) ⟨rfl, rfl, rfl, rfl, rfl, rfl, trivial⟩ ⟨[0], by decide, rfl⟩ ?_
      rintro k hk
      refine gc_seq <| gc_seq <| gc_region <| gl_op <| op_rd rfl (rd_move rfl) <| gl_op <| op_rd rfl (rd_move rfl) <| gl_op <| op_rd rfl (rd_move rfl) <| gl_op (op_rd rfl (rd_indexOld hJ.t Try.underlying22 ty_48 rfl rfl (by omega) (by omega)) ?_)
      refine gl_op <| op_rd rfl (rd_fieldAddr rfl (fa_48_3 _)) <| gl_op (op_rd rfl (rd_load Try.underlying46 rfl rfl (ld_slf hJ.t (get_flat Jb.cells 4 (fun _ => rfl) hx (j := 3) (by decide) rfl))) ?_)
      refine gl_op <| op_rd rfl (rd_lenSlice Try.underlying46 rfl) <| gl_op (op_rd rfl (rd_lss rfl rfl) (gk_dec (fun h31 => ?_) (fun h31 => ?_)))
      · obtain ⟨y, hy⟩ := get_some (show k < x.after.length by omega)
        have hyl := lag_lt hj hx hy
        have hgl := goneI_len l.length (preOf l) r i
        refine gl_nil <| gx_then <| gc_cond_t rfl <| gc_skip <| gx_then <| gc_seq <| gc_block <| gc_region <| gl_op <| op_rd rfl (rd_move rfl) <| gk_bool (fun h34 => ?_) (fun h34 => ?_)
        · refine gl_op <| op_rd rfl (rd_move rfl) <| gl_yes rfl rfl <| op_rd rfl (rd_move rfl) <| gl_yes rfl rfl <| op_rd rfl (rd_move rfl) <| gl_yes rfl rfl <| op_rd rfl (rd_move rfl) <| gl_yes rfl rfl (op_rd rfl (rd_indexOld hJ.t Try.underlying22 ty_48 rfl rfl (by omega) (by omega)) ?_)
          refine gl_yes rfl rfl <| op_rd rfl (rd_fieldAddr rfl (fa_48_3 _)) <| gl_yes rfl rfl (op_rd rfl (rd_load Try.underlying46 rfl rfl (ld_slf hJ.t (get_flat Jb.cells 4 (fun _ => rfl) hx (j := 3) (by decide) rfl))) ?_)
          refine gl_yes rfl rfl <| op_rd rfl (rd_move rfl) <| gl_yes rfl rfl (op_rd rfl (rd_indexOld (hJ.r x (List.mem_of_getElem? hx)) Try.underlying46 ty_50 rfl rfl (by omega) (by omega)) ?_)
          refine gl_yes rfl rfl <| op_rd rfl (rd_fieldAddr rfl (fa_50_0 _)) <| gl_yes rfl rfl (op_rd rfl (rd_load Try.underlying3 rfl rfl (ld_slf (hJ.r x (List.mem_of_getElem? hx)) (get_flat lagN 2 (fun _ => rfl) hy (j := 0) (by decide) rfl))) ?_)
          refine gl_yes rfl rfl (op_rd rfl (rd_indexRow1 0 rfl Try.underlying74 ty_4 rfl rfl (by omega) (by omega)) ?_)
          refine gl_yes rfl rfl (op_rd rfl (rd_load Try.underlying4 rfl rfl (ld_row 0 rfl (get_bool (p := y.1) (by omega)))) ?_)
          refine gl_op <| op_rd rfl (rd_pick_t rfl rfl) <| gl_op <| op_rd rfl (rd_assign rfl) <| gl_nil <| gx_block <| gx_then <| gc_region <| gl_op <| op_rd rfl (rd_move rfl) <| gl_op (op_rd rfl (by exact rd_addN (b := 1) rfl rfl (by omega)) ?_)
          refine gl_op <| op_rd rfl (rd_assign rfl) <| gl_nil <| gx_then ?_
          rw [show boolV ((goneI l.length (preOf l) r i).getD y.1 false) = .bool (rdyP (goneI l.length (preOf l) r i) (preOf l i) (k + 1)) from congrArg Value.bool (Eq.symm (by rw [rdyP_next (pre_at hx hy), h34]; rfl))]
          exact gx_cut (k + 1) ⟨by omega, by omega⟩ ⟨rfl, rfl, rfl, rfl, rfl, rfl, trivial⟩ ⟨[0], by decide, rfl⟩
        refine gl_op <| op_rd rfl (rd_move rfl) <| gl_no rfl rfl rfl <| gl_no rfl rfl rfl <| gl_no rfl rfl rfl <| gl_no rfl rfl rfl <| gl_no rfl rfl rfl <| gl_no rfl rfl rfl <| gl_no rfl rfl rfl <| gl_no rfl rfl rfl <| gl_no rfl rfl rfl <| gl_no rfl rfl rfl <| gl_no rfl rfl rfl <| gl_no rfl rfl rfl <| gl_op <| op_rd rfl (rd_pick_f rfl rfl) <| gl_op <| op_rd rfl (rd_assign rfl) <| gl_nil <| gx_block <| gx_then <| gc_region <| gl_op <| op_rd rfl (rd_move rfl) <| gl_op (op_rd rfl (by exact rd_addN (b := 1) rfl rfl (by omega)) ?_)
        refine gl_op <| op_rd rfl (rd_assign rfl) <| gl_nil <| gx_then ?_
        rw [show Value.bool false = .bool (rdyP (goneI l.length (preOf l) r i) (preOf l i) (k + 1)) from congrArg Value.bool (Eq.symm (by rw [rdyP_next (pre_at hx hy), h34]; rfl))]
        exact gx_cut (k + 1) ⟨by omega, by omega⟩ ⟨rfl, rfl, rfl, rfl, rfl, rfl, trivial⟩ ⟨[0], by decide, rfl⟩
      refine gl_nil <| gx_then <| gc_cond_f rfl <| gc_exit <| gx_then_exit <| gx_then_exit <| gx_block_exit <| gx_then <| gc_region <| gl_op <| op_rd rfl (rd_move rfl) <| gl_op <| op_rd rfl (rd_move rfl) <| gl_op <| op_rd rfl (rd_move rfl) <| gl_op <| op_rd rfl (rd_move rfl) <| gl_op (op_rd rfl (rd_indexRow1 0 rfl Try.underlying74 ty_4 rfl rfl (by omega) (by omega)) ?_)
      refine gl_op (op_rd rfl (rd_load Try.underlying4 rfl rfl (ld_row 0 rfl (get_bool (p := i) (by rw [goneI_len]; omega)))) ?_)
      refine gl_op <| op_rd rfl (rd_move rfl) <| gk_bool (fun h55 => ?_) (fun h55 => ?_)
      · refine gl_no rfl rfl rfl <| gl_op <| op_rd rfl (rd_pick_t rfl rfl) <| gl_op (op_rd rfl (rd_indexRow1 0 rfl Try.underlying74 ty_4 rfl rfl (by omega) (by omega)) ?_)
        refine gl_op (op_storeRowE 0 ty_4 rfl rfl rfl rfl (by rw [List.length_map, goneI_len]; omega) (show ((goneI l.length (preOf l) r i).map boolV).set i _ = (goneI l.length (preOf l) r (i + 1)).map boolV by rw [goneI_next]; unfold goneStep; rw [h55]; exact set_bool _ _ _) (by rfl) ?_)
        refine gl_nil <| gx_block <| gx_then <| gc_region <| gl_op <| op_rd rfl (rd_move rfl) <| gl_op (op_rd rfl (by exact rd_addN (b := 1) rfl rfl (by omega)) ?_)
        refine gl_op <| op_rd rfl (rd_assign rfl) <| gl_nil <| gx_then ?_
        exact gx_cut (i + 1) ⟨by omega, by omega⟩ ⟨rfl, rfl, rfl, rfl, trivial⟩ ⟨[0], by decide, rfl⟩
      refine gl_yes rfl rfl <| op_rd rfl (rd_move rfl) <| gl_op <| op_rd rfl (rd_pick_f rfl rfl) <| gl_op (op_rd rfl (rd_indexRow1 0 rfl Try.underlying74 ty_4 rfl rfl (by omega) (by omega)) ?_)
      refine gl_op (op_storeRowE 0 ty_4 rfl rfl rfl rfl (by rw [List.length_map, goneI_len]; omega) (show ((goneI l.length (preOf l) r i).map boolV).set i _ = (goneI l.length (preOf l) r (i + 1)).map boolV by rw [goneI_next]; unfold goneStep; rw [h55]; (rw [Bool.false_or, ← rdyP_all (k := k) (by rw [pre_len hx]; omega)]; exact set_bool _ _ _)) (by rfl) ?_)
      refine gl_nil <| gx_block <| gx_then <| gc_region <| gl_op <| op_rd rfl (rd_move rfl) <| gl_op (op_rd rfl (by exact rd_addN (b := 1) rfl rfl (by omega)) ?_)
      refine gl_op <| op_rd rfl (rd_assign rfl) <| gl_nil <| gx_then ?_
      exact gx_cut (i + 1) ⟨by omega, by omega⟩ ⟨rfl, rfl, rfl, rfl, trivial⟩ ⟨[0], by decide, rfl⟩
    have hi9 : i = l.length := by omega
    subst hi9
    rw [goneI_all]
    refine gl_nil <| gx_then <| gc_cond_f rfl <| gc_exit <| gx_then_exit <| gx_then_exit <| gx_block_exit <| gx_block <| gx_then <| gc_region <| gl_op <| op_rd rfl (rd_move rfl) <| gl_op (op_rd rfl (by exact rd_addN (b := 1) rfl rfl (by omega)) ?_)
    refine gl_op <| op_rd rfl (rd_assign rfl) <| gl_nil <| gx_then ?_
    exact gx_cut (r + 1) ⟨by omega, by omega⟩ ⟨rfl, rfl, rfl, trivial⟩ ⟨[0], by decide, rfl⟩
  have hr9 : r = l.length := by omega
  subst hr9
  refine gl_nil <| gx_then <| gc_cond_f rfl <| gc_exit <| gx_then_exit <| gx_then_exit <| gx_block_exit <| gx_then <| gc_seq <| gc_seq <| gc_region <| gl_op <| op_rd rfl (rd_assign rfl) <| gl_nil <| gx_then <| gc_block <| gc_loopF (ι := Nat) [(0, _), (3, _)] [_] (fun q => q ≤ l.length ∧ ∀ (j : Nat) y, j < q → (goneP l.length (preOf l) l.length)[j]? = some y → (fun b : Bool => !b) y = false) (fun q Fr0 => ((8, natV q) :: Fr0)) (fun q Fr0 => Fr0) (fun q => l.length - q) 0 (⟨Nat.zero_le _, fun j y h => absurd h (Nat.not_lt_zero j)⟩) ⟨rfl, rfl, rfl, trivial⟩ ⟨[0], by decide, rfl⟩ ?_
  rintro q ⟨hkq, hall⟩
  refine gc_seq <| gc_seq <| gc_region <| gl_op <| op_rd rfl (rd_move rfl) <| gl_op <| op_rd rfl (rd_move rfl) <| gl_op <| op_rd rfl (rd_lenSlice Try.underlying22 rfl) <| gl_op (op_rd rfl (rd_lss rfl rfl) (gk_dec (fun h62 => ?_) (fun h62 => ?_)))
  · obtain ⟨b, hb⟩ := get_some (show q < (goneP l.length (preOf l) l.length).length by rw [goneP_len]; omega)
    have hbd := getD_some (d := false) hb
    refine gl_nil <| gx_then <| gc_cond_t rfl <| gc_skip <| gx_then <| gc_seq <| gc_block <| gc_seq <| gc_region <| gl_op <| op_rd rfl (rd_move rfl) <| gl_op <| op_rd rfl (rd_move rfl) <| gl_op (op_rd rfl (rd_indexRow1 0 rfl Try.underlying74 ty_4 rfl rfl (by omega) (by omega)) ?_)
    refine gl_op (op_rd rfl (rd_load Try.underlying4 rfl rfl (ld_row 0 rfl (get_bool (p := q) (by rw [goneP_len]; omega)))) ?_)
    refine gk_bool (fun h68 => ?_) (fun h68 => ?_)
    · refine gl_op <| op_rd rfl (rd_not rfl) <| gl_nil <| gx_then <| gc_cond_f rfl <| gc_skip <| gx_block <| gx_then ?_
      have hbf : (fun b : Bool => !b) b = false := by rw [← hbd, h68]; rfl
      refine gc_region <| gl_op <| op_rd rfl (rd_move rfl) <| gl_op (op_rd rfl (by exact rd_addN (b := 1) rfl rfl (by omega)) ?_)
      refine gl_op <| op_rd rfl (rd_assign rfl) <| gl_nil <| gx_then ?_
      exact gx_cut (q + 1) ⟨⟨by omega, snocF hall hb hbf⟩, by omega⟩ ⟨rfl, rfl, rfl, trivial⟩ ⟨[0], by decide, rfl⟩
    refine gl_op <| op_rd rfl (rd_not rfl) <| gl_nil <| gx_then <| gc_cond_t rfl <| gc_seq <| gc_region <| gl_op <| op_rd rfl (rd_assign rfl) <| gl_nil <| gx_then <| gc_ret <| gx_block_ret <| gx_then_ret <| gx_then_ret <| gx_block_ret <| gx_then_ret <| gx_ret1 (.inl rfl) Try.results36 rfl [] (by decide) ?_
    refine ⟨congrArg Value.bool (Eq.symm ?_), rfl⟩
    exact circle_yes (i := q) (by omega) h68
  refine gl_nil <| gx_then <| gc_cond_f rfl <| gc_exit <| gx_then_exit <| gx_then_exit <| gx_block_exit <| gx_then <| gc_seq <| gc_region <| gl_op <| op_rd rfl (rd_assign rfl) <| gl_nil <| gx_then <| gc_ret <| gx_ret1 (.inl rfl) Try.results36 rfl [] (by decide) ?_
  refine ⟨congrArg Value.bool (Eq.symm ?_), rfl⟩
  exact circle_no fun i hi => by
    obtain ⟨b, hb⟩ := get_some (show i < (goneP l.length (preOf l) l.length).length by rw [goneP_len]; omega)
    have := hall i b (by omega) hb
    rw [getD_some hb]
    simpa using this
end Go.Proofs.Ytafmcflggikbfaa
namespace Go.Proofs.Ytafmcflggikbfaa
open Go.Gv
open Go.RowKit
open Go.Sn
open Go.Wk
open Sx
namespace Sx
theorem get_natL {g : List Nat} {p : Nat} (h : p < g.length) : (g.map natV)[p]? = some (natV (g.getD p 0)) := by
  rw [List.getElem?_map, List.getElem?_eq_getElem h, List.getD_eq_getElem?_getD, List.getElem?_eq_getElem h]; rfl
theorem set_natL (g : List Nat) (i b : Nat) : (g.map natV).set i (natV b) = (g.set i b).map natV := by rw [List.map_set]
theorem snocL (xs : List Nat) (q : Nat) : xs.map natV ++ [natV q] = (xs ++ [q]).map natV := by simp
theorem lenL (xs : List Nat) (q : Nat) : xs.length + 1 = (xs ++ [q]).length := by simp
theorem get_natK {g : List Nat} {p v : Nat} (h : g[p]? = some v) : (g.map natV)[p]? = some (natV v) := by rw [List.getElem?_map, h]; rfl
theorem opI_st {l : List Jb} {i : Nat} {x : Jb} (hx : l[i]? = some x) : ((opI l.length (preOf l) i).map natV).set i (natV x.after.length) = (opI l.length (preOf l) (i + 1)).map natV := by
  rw [set_natL, ← pre_len hx, opI_next (List.getElem?_eq_some_iff.1 hx).1]
theorem opI_ld {l : List Jb} {i : Nat} {x : Jb} (hx : l[i]? = some x) : ((opI l.length (preOf l) (i + 1)).map natV)[i]? = some (natV x.after.length) := by
  have hi := (List.getElem?_eq_some_iff.1 hx).1
  rw [get_natL (by rw [opI_len]; exact hi), opI_at hi, pre_len hx]
theorem pre_nil {l : List Jb} {i : Nat} {x : Jb} (hx : l[i]? = some x) : preOf l i = [] ↔ x.after.length = 0 := by rw [← pre_len hx, List.length_eq_zero_iff]
theorem kg_cells0 (n : Nat) : List.replicate n nilV = (List.replicate n (⟨none, 0, []⟩ : KG)).map KG.cell := by rw [List.map_replicate]; rfl
theorem getD_set1 {g : List Nat} {i v : Nat} (hi : i < g.length) : (g.set i v).getD i 0 = v := by rw [getD_setN _ _ _ _ hi, if_pos rfl]
theorem cnt_le {l : List Jb} (hj : JOk l) {m j : Nat} {op o : List Nat} (h : Wk.Kn l.length (preOf l) m j op o) {i : Nat} (hi : i < l.length) : op.getD i 0 ≤ 10 := by
  rw [h.cnt i hi]
  unfold cntU
  refine Nat.le_trans (List.length_filter_le _ _) ?_
  obtain ⟨x, hx⟩ := get_some hi
  rw [pre_len hx]
  exact hj.lags x (List.mem_of_getElem? hx)
theorem nxt_le (n : Nat) (pre : Nat → List Nat) (a : Nat) : (nxt n pre a).length ≤ n := by
  unfold nxt
  exact Nat.le_trans (List.length_filter_le _ _) (by simp)
end Sx
open Sx
set_option maxRecDepth 100000 in
set_option maxHeartbeats 1000000 in
theorem order_ok (a : Option Addr) (c : Nat) (l : List Jb) (hj : JOk l) (w0 : World) (hJ : JnIn a l w0 []) : Sp Try.prog 26 [.slice a l.length c] w0 [] (fun v L => ∃ (o : List Nat) (r : Option Nat) (c : Nat), v = .tuple #[.slice (rowA r) o.length c, .bool (decide (o.length = l.length))] ∧ L = [.row 3 1 r o.length c (o.map natV)] ∧ Ord l.length (preOf l) o) := by
  have hln := hj.n
  refine spec_enter Try.func26 rfl Try.ntmps26 rfl (Own.refl _) ?_
  simp only [argEnv]
  refine gc_seq <| gc_region <| gl_op <| op_rd rfl (rd_assign rfl) <| gl_op <| op_rd rfl (rd_assign rfl) <| gl_nil <| gx_then <| gc_seq <| gc_region <| gl_op <| op_rd rfl (rd_move rfl) <| gl_op <| op_rd rfl (rd_lenSlice Try.underlying22 rfl) <| gl_op (op_makeSlice (l.length) Try.underlying29 ty_3 rfl rfl rfl (by omega) (by omega) (by omega) (by omega) (fun b16 => ?_))
  refine gl_op <| op_rd rfl (rd_assign rfl) <| gl_nil <| gx_then <| gc_seq <| gc_region <| gl_op <| op_rd rfl (rd_move rfl) <| gl_op <| op_rd rfl (rd_lenSlice Try.underlying22 rfl) <| gl_op (op_makeSlice (l.length) Try.underlying81 ty_29 rfl rfl rfl (by omega) (by omega) (by omega) (by omega) (fun b19 => ?_))
  refine gl_op <| op_rd rfl (rd_assign rfl) <| gl_nil <| gx_then <| gc_seq <| gc_region <| gl_op <| op_rd rfl (rd_assign rfl) <| gl_nil <| gx_then <| gc_seq <| gc_seq ?_
  rw [made_one _ rfl, made_one _ rfl, show List.replicate l.length (Value.int IntKind.i64 0) = (opI l.length (preOf l) 0).map natV by rw [opI_zero]; simp, show List.replicate l.length (Value.slice none 0 0) = (List.replicate l.length (⟨none, 0, []⟩ : KG)).map KG.cell from kg_cells0 _]
  refine gk_nils 3 l.length ?_
  simp only [List.cons_append, List.nil_append]
  refine gc_region <| gl_op <| op_rd rfl (rd_move rfl) <| gl_op <| op_rd rfl (rd_lenSlice Try.underlying22 rfl) <| gl_op <| op_rd rfl (rd_move rfl) <| gl_nil <| gx_then <| gc_block <| gk_nil 3 1 <| gc_loopF (ι := Nat × List KG × Option Nat × Nat × List Nat) [(0, _), (4, _), (5, _), (20, _), (21, _)] [] (fun q => q.1 ≤ l.length ∧ RsOk l.length (preOf l) q.1 0 q.2.1 ∧ q.2.2.2.2 = outI (preOf l) q.1) (fun q Fr0 => ((6, .slice (rowA (q.2.2.1)) (q.2.2.2.2).length (q.2.2.2.1)) :: (22, natV q.1) :: Fr0)) (fun q Fr0 => (.row 3 1 (some b16) l.length l.length ((opI l.length (preOf l) q.1).map natV) :: .row 29 1 (some b19) l.length l.length ((q.2.1).map KG.cell) :: .row 3 1 (q.2.2.1) (q.2.2.2.2).length (q.2.2.2.1) ((q.2.2.2.2).map natV) :: (Fr0 ++ (q.2.1.map (KG.hl 3))))) (fun q => l.length - q.1) (0, List.replicate l.length (⟨none, 0, []⟩ : KG), none, 0, []) (⟨Nat.zero_le _, RsOk.zero, rfl⟩) ⟨rfl, rfl, rfl, rfl, rfl, rfl, rfl, trivial⟩ (sub_tail (A := [_, _, _]) (B := [_, _, _]) (T := ((List.replicate l.length (⟨none, 0, []⟩ : KG)).map (KG.hl 3))) [2, 1, 0] 3 (by decide) (by decide) rfl rfl) ?_
  rintro ⟨i, G, r, c9, o⟩ ⟨hi, hR, ho⟩
  simp only at hi hR ho ⊢
  refine gc_seq <| gc_region <| gl_op (op_rd rfl (rd_lss rfl rfl) (gk_dec (fun h23 => ?_) (fun h23 => ?_)))
  · obtain ⟨x, hx⟩ := get_some (show i < l.length by omega)
    have hxl := hj.lags x (List.mem_of_getElem? hx)
    have hol := outI_len (pre := preOf l) i
    rw [← ho] at hol
    refine gl_nil <| gx_then <| gc_seq <| gc_cond_t rfl <| gc_skip <| gx_then <| gc_seq <| gc_block <| gc_seq <| gc_region <| gl_op <| op_rd rfl (rd_move rfl) <| gl_op (op_rd rfl (rd_indexOld hJ.t Try.underlying22 ty_48 rfl rfl (by omega) (by omega)) ?_)
    refine gl_op (op_rd rfl (rd_loadAgg Try.underlying48 rfl ty_48 rfl (cs_slN hJ.t (flat_drop_get Jb.cells 4 (fun _ => rfl) hx)) rfl) ?_)
    refine gl_op (op_alloc ty_48 rfl rfl (fun b8 => ?_))
    refine gl_op <| op_rd rfl (rd_assign rfl) <| gl_op (op_storeAgg 0 ty_48 rfl rfl rfl rfl rfl rfl (by rfl) ?_)
    refine gl_nil <| gx_then <| gc_seq <| gc_region <| gl_op <| op_rd rfl (rd_move rfl) <| gl_op <| op_rd rfl (rd_move rfl) <| gl_op <| op_rd rfl (rd_fieldAddr rfl (fa_48_3 _)) <| gl_op (op_rd rfl (rd_load Try.underlying46 rfl rfl (by exact ld_blk 0 rfl rfl)) ?_)
    refine gl_op <| op_rd rfl (rd_lenSlice Try.underlying46 rfl) <| gl_op (op_rd rfl (rd_indexRow1 1 rfl Try.underlying29 ty_3 rfl rfl (by omega) (by omega)) ?_)
    refine gl_op (op_storeRowE 1 ty_3 rfl rfl rfl rfl (by rw [List.length_map, opI_len]; omega) (opI_st hx) (by rfl) ?_)
    refine gl_nil <| gx_then <| gc_seq <| gc_seq <| gc_region <| gl_op <| op_rd rfl (rd_fieldAddr rfl (fa_48_3 _)) <| gl_op (op_rd rfl (rd_load Try.underlying46 rfl rfl (by exact ld_blk 0 rfl rfl)) ?_)
    refine gl_op <| op_rd rfl (rd_lenSlice Try.underlying46 rfl) <| gl_op <| op_rd rfl (rd_move rfl) <| gl_nil <| gx_then <| gc_block <| gc_loopF (ι := Nat × List KG) [(0, _), (4, _), (5, _), (6, _), (7, _), (20, _), (21, _), (22, _), (34, _), (35, _)] [_, _, _] (fun q => q.1 ≤ x.after.length ∧ RsOk l.length (preOf l) i q.1 q.2) (fun q Fr0 => ((36, natV q.1) :: Fr0)) (fun q Fr0 => (.row 29 1 (some b19) l.length l.length ((q.2).map KG.cell) :: (Fr0 ++ (q.2.map (KG.hl 3))))) (fun q => x.after.length - q.1) (0, G) (⟨Nat.zero_le _, hR⟩) ⟨rfl, rfl, rfl, rfl, rfl, rfl, rfl, rfl, rfl, rfl, rfl, trivial⟩ (sub_tail (A := [_, _, _, _]) (B := [_, _, _, _]) (T := (G.map (KG.hl 3))) [2, 0, 1, 3] 4 (by decide) (by decide) rfl rfl) ?_
    rintro ⟨k, G1⟩ ⟨hk, hR1⟩
    simp only at hk hR1 ⊢
    refine gc_seq <| gc_region <| gl_op (op_rd rfl (rd_lss rfl rfl) (gk_dec (fun h37 => ?_) (fun h37 => ?_)))
    · obtain ⟨y, hy⟩ := get_some (show k < x.after.length by omega)
      have hyl := lag_lt hj hx hy
      obtain ⟨g, hg⟩ := get_some (show y.1 < G1.length by rw [hR1.len]; omega)
      have hgl : g.ks.length ≤ i + 1 := by rw [hR1.row _ g hg]; exact nxtI_len k y.1
      refine gl_nil <| gx_then <| gc_seq <| gc_cond_t rfl <| gc_skip <| gx_then <| gc_seq <| gc_block <| gc_seq <| gc_region <| gl_op (op_rd rfl (rd_indexOld (hJ.r x (List.mem_of_getElem? hx)) Try.underlying46 ty_50 rfl rfl (by omega) (by omega)) ?_)
      refine gl_op (op_rd rfl (rd_loadAgg Try.underlying50 rfl ty_50 rfl (cs_slN (hJ.r x (List.mem_of_getElem? hx)) (flat_drop_get lagN 2 (fun _ => rfl) hy)) rfl) ?_)
      refine gl_op (op_alloc ty_50 rfl rfl (fun b10 => ?_))
      refine gl_op (op_storeAgg 0 ty_50 rfl rfl rfl rfl rfl rfl (by rfl) ?_)
      refine gl_nil <| gx_then <| gc_drawP [0, 1, 2, 3, 4] false 12 rfl <| ga_first 0 (bm 13 1) rfl rfl rfl rfl (by kernel_rfl) (by kernel_rfl) ⟨[0, 1, 2, 3, 4], by decide, rfl⟩ (qt_rd (rd_move rfl)) ?_
      refine ga_first 1 (bm 13 3) rfl rfl rfl rfl (by kernel_rfl) (by kernel_rfl) ⟨[0, 1, 2, 3, 4], by decide, rfl⟩ (qt_rd (rd_fieldAddr rfl (fa_50_0 _))) ?_
      refine ga_first 2 (bm 13 7) rfl rfl rfl rfl (by kernel_rfl) (by kernel_rfl) ⟨[0, 1, 2, 3, 4], by decide, rfl⟩ (qt_rd (rd_load Try.underlying3 rfl rfl (by exact ld_blk 0 rfl rfl))) ?_
      refine ga_first 3 (bm 13 15) rfl rfl rfl rfl (by kernel_rfl) (by kernel_rfl) ⟨[0, 1, 2, 3, 4], by decide, rfl⟩ (qt_rd (rd_move rfl)) ?_
      refine ga_first 4 (bm 13 31) rfl rfl rfl rfl (by kernel_rfl) (by kernel_rfl) ⟨[0, 1, 2, 3, 4], by decide, rfl⟩ (qt_rd (rd_fieldAddr rfl (fa_50_0 _))) ?_
      refine ga_first 5 (bm 13 63) rfl rfl rfl rfl (by kernel_rfl) (by kernel_rfl) ⟨[0, 1, 2, 3, 4], by decide, rfl⟩ (qt_rd (rd_load Try.underlying3 rfl rfl (by exact ld_blk 0 rfl rfl))) ?_
      refine ga_first 6 (bm 13 127) rfl rfl rfl rfl (by kernel_rfl) (by kernel_rfl) ⟨[0, 1, 2, 3, 4], by decide, rfl⟩ (qt_rd (rd_indexRow1 1 rfl Try.underlying81 ty_29 rfl rfl (by omega) (by omega))) ?_
      refine ga_first 7 (bm 13 255) rfl rfl rfl rfl (by kernel_rfl) (by kernel_rfl) ⟨[0, 1, 2, 3, 4], by decide, rfl⟩ (qt_rd (rd_load Try.underlying29 rfl rfl (ld_row 1 rfl (kg_get hg)))) ?_
      refine ga_first 8 (bm 13 511) rfl rfl rfl rfl (by kernel_rfl) (by kernel_rfl) ⟨[0, 1, 2, 3, 4], by decide, rfl⟩ (qt_rd (rd_move rfl)) ?_
      refine ga_only 9 (bm 13 1023) rfl rfl (by kernel_rfl) (by kernel_rfl) (.inr ⟨[0, 1, 2, 3, 4], by decide, rfl⟩) (op_buildSlice (sz := 1) rfl rfl (fun _ => bs_29_1_0 _) rfl rfl (fun b49 => ?_))
      refine ga_only 10 (bm 13 2047) rfl rfl (by kernel_rfl) (by kernel_rfl) (.inr ⟨[1, 2, 3, 4, 5], by decide, rfl⟩) (op_appendTl (A := [_, _, _, _, _, _]) 6 0 rfl hg Try.underlying29 ty_3 rfl (by decide) rfl rfl rfl (by omega) (by omega) (fun r50 c50 => ?_))
      simp only [List.cons_append, List.nil_append]
      refine ga_first 11 (bm 13 4095) rfl rfl rfl rfl (by kernel_rfl) (by kernel_rfl) ⟨[1, 2, 3, 4, 5], by decide, rfl⟩ (qt_rd (rd_indexRow1 1 rfl Try.underlying81 ty_29 rfl rfl (by omega) (by omega))) ?_
      refine ga_only 12 (bm 13 8191) rfl rfl (by kernel_rfl) (by kernel_rfl) (.inr ⟨[1, 2, 3, 4, 5], by decide, rfl⟩) (op_storeRowE 2 ty_29 rfl rfl rfl rfl (by rw [List.length_map, hR1.len]; omega) (kg_set1 (j := y.1) (v := i)) (by rfl) ?_)
      refine ga_end (by kernel_rfl) (.inl (by kernel_rfl)) ?_
      refine gx_block <| gx_then <| gc_region <| gl_op (op_rd rfl (by exact rd_addN (b := 1) rfl rfl (by omega)) ?_)
      refine gl_op <| op_rd rfl (rd_move rfl) <| gl_nil <| gx_then ?_
      exact gx_cut ((k + 1, G1.set y.1 ⟨r50, c50, g.ks ++ [i]⟩)) ⟨⟨by simp only; omega, hR1.step (pre_nodup hj i) (pre_at hx hy) hg r50 c50⟩, by simp only; omega⟩ ⟨rfl, rfl, rfl, rfl, rfl, rfl, rfl, rfl, rfl, rfl, rfl, trivial⟩ (sub_tail (A := [_, _, _, _]) (B := [_, _, _, _, _, _]) (T := ((G1.set y.1 ⟨r50, c50, g.ks ++ [i]⟩).map (KG.hl 3))) [2, 3, 4, 5] 6 (by decide) (by decide) rfl rfl)
    refine gl_nil <| gx_then <| gc_seq <| gc_cond_f rfl <| gc_exit <| gx_then_exit <| gx_then_exit <| gx_block_exit <| gx_then <| gc_seq <| gc_region <| gl_op <| op_rd rfl (rd_move rfl) <| gl_op <| op_rd rfl (rd_move rfl) <| gl_op (op_rd rfl (rd_indexRow1 2 rfl Try.underlying29 ty_3 rfl rfl (by omega) (by omega)) ?_)
    refine gl_op <| op_rd rfl (rd_load Try.underlying3 rfl rfl (ld_row 2 rfl (opI_ld hx))) <| gl_op (op_rd rfl (rd_eql rfl rfl) (gk_dec (fun h57 => ?_) (fun h57 => ?_)))
    · refine gl_nil <| gx_then <| gc_cond_t rfl <| gc_region <| gl_op <| op_rd rfl (rd_move rfl) <| gl_op <| op_rd rfl (rd_move rfl) <| gl_op (op_buildSlice (sz := 1) rfl rfl (fun _ => bs_29_1_0 _) rfl rfl (fun b60 => ?_))
      refine gl_op (op_appendRow 4 0 Try.underlying29 ty_3 rfl (by decide) rfl rfl rfl rfl rfl (by simp [Value.oneCell']) (by omega) (by omega) (fun _ => (by rfl)) (fun r61 c61 => ?_))
      refine gl_op <| op_rd rfl (rd_assign rfl) <| gl_nil <| gx_block <| gx_then <| gc_region <| gl_op (op_rd rfl (by exact rd_addN (b := 1) rfl rfl (by omega)) ?_)
      refine gl_op <| op_rd rfl (rd_move rfl) <| gl_nil <| gx_then ?_
      rw [snocL, lenL]
      exact gx_cut ((i + 1, G1, r61, c61, o ++ [i])) ⟨⟨by simp only; omega, hR1.next (by rw [pre_len hx]; omega), by simp only; rw [ho, outI_next ((pre_nil hx).2 (by omega))]⟩, by simp only; omega⟩ ⟨rfl, rfl, rfl, rfl, rfl, rfl, rfl, trivial⟩ (sub_tail (A := [_, _, _]) (B := [_, _, _, _, _]) (T := (G1.map (KG.hl 3))) [3, 1, 4] 5 (by decide) (by decide) rfl rfl)
    refine gl_nil <| gx_then <| gc_cond_f rfl <| gc_skip <| gx_block <| gx_then <| gc_region <| gl_op (op_rd rfl (by exact rd_addN (b := 1) rfl rfl (by omega)) ?_)
    refine gl_op <| op_rd rfl (rd_move rfl) <| gl_nil <| gx_then ?_
    exact gx_cut ((i + 1, G1, r, c9, o)) ⟨⟨by simp only; omega, hR1.next (by rw [pre_len hx]; omega), by simp only; rw [ho, outI_same (fun h => absurd ((pre_nil hx).1 h) (by omega))]⟩, by simp only; omega⟩ ⟨rfl, rfl, rfl, rfl, rfl, rfl, rfl, trivial⟩ (sub_tail (A := [_, _, _]) (B := [_, _, _, _]) (T := (G1.map (KG.hl 3))) [2, 0, 3] 4 (by decide) (by decide) rfl rfl)
  have hi9 : i = l.length := by omega
  subst hi9
  have hK0 : Kn l.length (preOf l) 0 0 (opI l.length (preOf l) l.length) o := by rw [ho]; exact kn_start
  refine gl_nil <| gx_then <| gc_seq <| gc_cond_f rfl <| gc_exit <| gx_then_exit <| gx_then_exit <| gx_block_exit <| gx_then <| gc_seq <| gc_seq <| gc_region <| gl_op <| op_rd rfl (rd_assign rfl) <| gl_nil <| gx_then <| gc_block <| gc_loopF (ι := Nat × List Nat × Option Nat × Nat × List Nat) [(0, _), (4, _), (5, _)] (_ :: (G.map (KG.hl 3))) (fun q => Kn l.length (preOf l) q.1 0 q.2.1 q.2.2.2.2) (fun q Fr0 => ((6, .slice (rowA (q.2.2.1)) (q.2.2.2.2).length (q.2.2.2.1)) :: (11, natV q.1) :: Fr0)) (fun q Fr0 => (.row 3 1 (some b16) l.length l.length ((q.2.1).map natV) :: .row 3 1 (q.2.2.1) (q.2.2.2.2).length (q.2.2.2.1) ((q.2.2.2.2).map natV) :: Fr0)) (fun q => l.length - q.1) (0, opI l.length (preOf l) l.length, r, c9, o) (hK0) ⟨rfl, rfl, rfl, rfl, rfl, trivial⟩ (sub_tail (A := [_, _, _]) (B := [_, _, _]) (T := (G.map (KG.hl 3))) [0, 2, 1] 3 (by decide) (by decide) rfl rfl) ?_
  rintro ⟨m, op0, r0, c0, o0⟩ hK
  simp only at hK ⊢
  have hol := nodup_len hK.nodup hK.lt
  refine gc_seq <| gc_seq <| gc_region <| gl_op <| op_rd rfl (rd_move rfl) <| gl_op <| op_rd rfl (rd_move rfl) <| gl_op <| op_rd rfl (rd_lenSlice Try.underlying29 rfl) <| gl_op (op_rd rfl (rd_lss rfl rfl) (gk_dec (fun h66 => ?_) (fun h66 => ?_)))
  · obtain ⟨a1, ha1⟩ := get_some (show m < o0.length by omega)
    have hal := hK.lt a1 (List.mem_of_getElem? ha1)
    obtain ⟨g, hg⟩ := get_some (show a1 < G.length by rw [hR.len]; omega)
    have hgk := hR.all hg
    refine gl_nil <| gx_then <| gc_cond_t rfl <| gc_skip <| gx_then <| gc_seq <| gc_block <| gc_seq <| gc_region <| gl_op <| op_rd rfl (rd_move rfl) <| gl_op <| op_rd rfl (rd_move rfl) <| gl_op <| op_rd rfl (rd_move rfl) <| gl_op (op_rd rfl (rd_indexRow1 1 rfl Try.underlying29 ty_3 rfl rfl (by omega) (by omega)) ?_)
    refine gl_op <| op_rd rfl (rd_load Try.underlying3 rfl rfl (ld_row 1 rfl (get_natK ha1))) <| gl_op (op_rd rfl (rd_indexRow1 2 rfl Try.underlying81 ty_29 rfl rfl (by omega) (by omega)) ?_)
    refine gl_op <| op_rd rfl (rd_load Try.underlying29 rfl rfl (ld_row 2 rfl (kg_get hg))) <| gl_op <| op_rd rfl (rd_lenSlice Try.underlying29 rfl) <| gl_op <| op_rd rfl (rd_move rfl) <| gl_nil <| gx_then <| gc_block <| gc_loopF (ι := Nat × List Nat × Option Nat × Nat × List Nat) [(0, _), (4, _), (5, _), (11, _), (75, _), (76, _)] (_ :: (G.map (KG.hl 3))) (fun q => q.1 ≤ g.ks.length ∧ Kn l.length (preOf l) m q.1 q.2.1 q.2.2.2.2 ∧ q.2.2.2.2[m]? = some a1) (fun q Fr0 => ((6, .slice (rowA (q.2.2.1)) (q.2.2.2.2).length (q.2.2.2.1)) :: (77, natV q.1) :: Fr0)) (fun q Fr0 => (.row 3 1 (some b16) l.length l.length ((q.2.1).map natV) :: .row 3 1 (q.2.2.1) (q.2.2.2.2).length (q.2.2.2.1) ((q.2.2.2.2).map natV) :: Fr0)) (fun q => g.ks.length - q.1) (0, op0, r0, c0, o0) (⟨Nat.zero_le _, hK, ha1⟩) ⟨rfl, rfl, rfl, rfl, rfl, rfl, rfl, rfl, trivial⟩ (sub_tail (A := [_, _, _]) (B := [_, _, _]) (T := (G.map (KG.hl 3))) [0, 1, 2] 3 (by decide) (by decide) rfl rfl) ?_
    rintro ⟨j, op, r, c9, o⟩ ⟨hj3, hKj, hoa⟩
    simp only at hj3 hKj hoa ⊢
    refine gc_seq <| gc_region <| gl_op (op_rd rfl (rd_lss rfl rfl) (gk_dec (fun h78 => ?_) (fun h78 => ?_)))
    · obtain ⟨i, hi⟩ := get_some (show j < g.ks.length by omega)
      have hin : (nxt l.length (preOf l) a1)[j]? = some i := by rw [← hgk]; exact hi
      have hst := hKj.step (pre_nodup hj) hoa hin
      have hil := (nxt_mem.1 (List.mem_of_getElem? hin)).1
      have hopl := hKj.len
      have hatl := (List.getElem?_eq_some_iff.1 hoa).1
      have hol3 := nodup_len hKj.nodup hKj.lt
      obtain ⟨hst1, hst2⟩ := id hst
      have hcl := cnt_le hj hKj hil
      have hgl3 : g.ks.length ≤ l.length := by rw [hgk]; exact nxt_le _ _ _
      refine gl_nil <| gx_then <| gc_seq <| gc_cond_t rfl <| gc_skip <| gx_then <| gc_seq <| gc_block <| gc_seq <| gc_region <| gl_op (op_rd rfl (rd_indexRow1 (3 + a1) (tl_get (A := [_, _, _]) 3 rfl hg) Try.underlying29 ty_3 rfl rfl (by omega) (by omega)) ?_)
      refine gl_op <| op_rd rfl (rd_load Try.underlying3 rfl rfl (ld_row (3 + a1) (tl_get (A := [_, _, _]) 3 rfl hg) (get_natK hi))) <| gl_op <| op_rd rfl (rd_assign rfl) <| gl_nil <| gx_then <| gc_seq <| gc_region <| gl_op <| op_rd rfl (rd_move rfl) <| gl_op <| op_rd rfl (rd_move rfl) <| gl_op (op_rd rfl (rd_indexRow1 0 rfl Try.underlying29 ty_3 rfl rfl (by omega) (by omega)) ?_)
      refine gl_op (op_rd rfl (rd_load Try.underlying3 rfl rfl (ld_row 0 rfl (get_natL (p := i) (by omega)))) ?_)
      refine gl_op (op_rd rfl (rd_subN (b := 1) rfl rfl (by omega) (by omega)) ?_)
      refine gl_op (op_rd rfl (rd_indexRow1 0 rfl Try.underlying29 ty_3 rfl rfl (by omega) (by omega)) ?_)
      refine gl_op (op_storeRowE 0 ty_3 rfl rfl rfl rfl (by rw [List.length_map]; omega) (set_natL op i (op.getD i 0 - 1)) (by rfl) ?_)
      refine gl_nil <| gx_then <| gc_seq <| gc_region <| gl_op <| op_rd rfl (rd_move rfl) <| gl_op <| op_rd rfl (rd_move rfl) <| gl_op (op_rd rfl (rd_indexRow1 0 rfl Try.underlying29 ty_3 rfl rfl (by omega) (by omega)) ?_)
      refine gl_op (op_rd rfl (rd_load Try.underlying3 rfl rfl (ld_row 0 rfl (get_natL (p := i) (by rw [List.length_set]; omega)))) ?_)
      refine gl_op (op_rd rfl (rd_eql rfl rfl) (gk_dec (fun h91 => ?_) (fun h91 => ?_)))
      · rw [getD_set1 (by omega)] at h91
        refine gl_nil <| gx_then <| gc_cond_t rfl <| gc_region <| gl_op <| op_rd rfl (rd_move rfl) <| gl_op <| op_rd rfl (rd_move rfl) <| gl_op (op_buildSlice (sz := 1) rfl rfl (fun _ => bs_29_1_0 _) rfl rfl (fun b94 => ?_))
        refine gl_op (op_appendRow 2 0 Try.underlying29 ty_3 rfl (by decide) rfl rfl rfl rfl rfl (by simp [Value.oneCell']) (by omega) (by omega) (fun _ => (by rfl)) (fun r95 c95 => ?_))
        refine gl_op <| op_rd rfl (rd_assign rfl) <| gl_nil <| gx_block <| gx_then <| gc_region <| gl_op (op_rd rfl (by exact rd_addN (b := 1) rfl rfl (by omega)) ?_)
        refine gl_op <| op_rd rfl (rd_move rfl) <| gl_nil <| gx_then ?_
        rw [snocL, lenL]
        exact gx_cut ((j + 1, op.set i (op.getD i 0 - 1), r95, c95, o ++ [i])) ⟨⟨by simp only; omega, by simp only; have h8 := hst.2.1 (by omega); rw [show op.getD i 0 - 1 = 0 by omega]; exact h8, by simp only; rw [List.getElem?_append_left hatl]; exact hoa⟩, by simp only; omega⟩ ⟨rfl, rfl, rfl, rfl, rfl, rfl, rfl, rfl, trivial⟩ (sub_tail (A := [_, _, _]) (B := [_, _, _, _]) (T := (G.map (KG.hl 3))) [1, 2, 3] 4 (by decide) (by decide) rfl rfl)
      rw [getD_set1 (by omega)] at h91
      refine gl_nil <| gx_then <| gc_cond_f rfl <| gc_skip <| gx_block <| gx_then <| gc_region <| gl_op (op_rd rfl (by exact rd_addN (b := 1) rfl rfl (by omega)) ?_)
      refine gl_op <| op_rd rfl (rd_move rfl) <| gl_nil <| gx_then ?_
      exact gx_cut ((j + 1, op.set i (op.getD i 0 - 1), r, c9, o)) ⟨⟨by simp only; omega, hst.2.2 (by omega), hoa⟩, by simp only; omega⟩ ⟨rfl, rfl, rfl, rfl, rfl, rfl, rfl, rfl, trivial⟩ (sub_tail (A := [_, _, _]) (B := [_, _, _]) (T := (G.map (KG.hl 3))) [0, 1, 2] 3 (by decide) (by decide) rfl rfl)
    refine gl_nil <| gx_then <| gc_seq <| gc_cond_f rfl <| gc_exit <| gx_then_exit <| gx_then_exit <| gx_block_exit <| gx_block <| gx_then <| gc_region <| gl_op <| op_rd rfl (rd_move rfl) <| gl_op (op_rd rfl (by exact rd_addN (b := 1) rfl rfl (by omega)) ?_)
    refine gl_op <| op_rd rfl (rd_assign rfl) <| gl_nil <| gx_then ?_
    exact gx_cut ((m + 1, op, r, c9, o)) ⟨hKj.next hoa (by rw [← hgk]; omega), by simp only; omega⟩ ⟨rfl, rfl, rfl, rfl, rfl, trivial⟩ (sub_tail (A := [_, _, _]) (B := [_, _, _]) (T := (G.map (KG.hl 3))) [0, 1, 2] 3 (by decide) (by decide) rfl rfl)
  refine gl_nil <| gx_then <| gc_cond_f rfl <| gc_exit <| gx_then_exit <| gx_then_exit <| gx_block_exit <| gx_then <| gc_seq <| gc_region <| gl_op <| op_rd rfl (rd_move rfl) <| gl_op <| op_rd rfl (rd_move rfl) <| gl_op <| op_rd rfl (rd_lenSlice Try.underlying29 rfl) <| gl_op <| op_rd rfl (rd_move rfl) <| gl_op <| op_rd rfl (rd_lenSlice Try.underlying22 rfl) <| gl_op <| op_rd rfl (rd_eql rfl rfl) <| gl_op <| op_rd rfl (rd_assign rfl) <| gl_op <| op_rd rfl (rd_assign rfl) <| gl_nil <| gx_then <| gc_ret <| gx_ret2S (.inl rfl) Try.results26 rfl rfl ⟨[1], by decide, rfl⟩ ?_
  refine ⟨o0, r0, c0, ?_, ?_, hK.done (by have := hK.at_le; omega)⟩
  · congr 4; simp; omega
  · rfl
end Go.Proofs.Ytafmcflggikbfaa
namespace Go.Proofs.Ytafmcflggikbfaa
open Go.Gv
open Go.RowKit
open Go.Sn
open Go.Wk
open Sx
namespace Sx
theorem lag_any {l : List JI} : (l.any fun x => decide (10 < x.after.length)) = l.any lagF := rfl
theorem nd_no {l : List JI} {i k : Nat} {x y : JI} (hx : l[i]? = some x) (hy : l[k]? = some y) (hk : k < i) (h : y.name = x.name) : ¬ (names l).Nodup := fun hn => by
  have hx2 : (names l)[i]? = some x.name := by unfold names; rw [List.getElem?_map, hx]; rfl
  have hy2 : (names l)[k]? = some x.name := by unfold names; rw [List.getElem?_map, hy, ← h]; rfl
  have := (List.getElem?_inj (by have := (List.getElem?_eq_some_iff.1 hx2).1; omega) hn).1 (hx2.trans hy2.symm)
  omega
def namD (l : List JI) (i k : Nat) : Prop := (l.getD k default).name ≠ (l.getD i default).name
theorem nd_yes {l : List JI} (h : ∀ i, i < l.length → ∀ k, k < i → namD l i k) : (names l).Nodup := by
  unfold names
  rw [List.Nodup, List.pairwise_iff_getElem]
  intro k i hk hi hki
  have hk2 : k < l.length := by simpa using hk
  have hi2 : i < l.length := by simpa using hi
  have := h i hi2 k hki
  unfold namD at this
  rw [List.getD_eq_getElem?_getD, List.getElem?_eq_getElem hk2, List.getD_eq_getElem?_getD, List.getElem?_eq_getElem hi2] at this
  simp only [List.getElem_map]
  simpa using this
theorem checkE_ok {l : List JI} (h1 : lngB l = false) (h2 : allB l = true) (h3 : (names l).Nodup) : checkE l = if circleP l.length (preI l) = true then 290 else 0 := by
  unfold checkE
  rw [if_neg (by rw [h1]; decide), if_neg (by rw [h2]; decide), if_neg (not_not_intro h3)]
end Sx
open Sx
set_option maxRecDepth 100000 in
set_option maxHeartbeats 1000000 in
theorem rCheck_ok (a : Option Addr) (c : Nat) (l : List JI) (hle : JsLe l) (w0 : World) (hJ : JsIn a l w0 []) : Sp Try.prog 15 [.slice a l.length c] w0 [] (RV (.int .i64 (checkE l))) := by
  have hln := hle.t
  refine spec_enter Try.func15 rfl Try.ntmps15 rfl (Own.refl _) ?_
  simp only [argEnv]
  refine gc_seq <| gc_region <| gl_op <| op_rd rfl (rd_assign rfl) <| gl_nil <| gx_then <| gc_seq <| gc_seq <| gc_region <| gl_op <| op_rd rfl (rd_move rfl) <| gl_op <| op_rd rfl (rd_lenSlice Try.underlying22 rfl) <| gl_op (op_rd rfl (rd_gtr rfl rfl) (gk_dec (fun h9 => ?_) (fun h9 => ?_)))
  · refine gl_nil <| gx_then <| gc_cond_t rfl <| gc_seq <| gc_region <| gl_op <| op_rd rfl (rd_assign rfl) <| gl_nil <| gx_then <| gc_ret <| gx_then_ret <| gx_ret1 (.inl rfl) Try.results15 rfl [] (by decide) ?_
    refine ⟨congrArg (Value.int .i64) (Eq.symm ?_), rfl⟩
    unfold checkE
    rw [if_pos]
    unfold lngB
    simp; omega
  refine gl_nil <| gx_then <| gc_cond_f rfl <| gc_skip <| gx_then <| gc_seq <| gc_seq <| gc_region <| gl_op <| op_rd rfl (rd_assign rfl) <| gl_nil <| gx_then <| gc_block <| gc_loopF (ι := Nat) [(0, _)] [] (fun k => k ≤ l.length ∧ ∀ (j : Nat) y, j < k → l[j]? = some y → lagF y = false) (fun k Fr0 => ((3, natV k) :: Fr0)) (fun k Fr0 => Fr0) (fun k => l.length - k) 0 (⟨Nat.zero_le _, fun j y h => absurd h (Nat.not_lt_zero j)⟩) ⟨rfl, rfl, trivial⟩ ⟨[], by decide, rfl⟩ ?_
  rintro k ⟨hkk, hall⟩
  refine gc_seq <| gc_seq <| gc_region <| gl_op <| op_rd rfl (rd_move rfl) <| gl_op <| op_rd rfl (rd_move rfl) <| gl_op <| op_rd rfl (rd_lenSlice Try.underlying22 rfl) <| gl_op (op_rd rfl (rd_lss rfl rfl) (gk_dec (fun h13 => ?_) (fun h13 => ?_)))
  · obtain ⟨x, hx⟩ := get_some (show k < l.length by omega)
    have hxa := hle.r x (List.mem_of_getElem? hx)
    refine gl_nil <| gx_then <| gc_cond_t rfl <| gc_skip <| gx_then <| gc_seq <| gc_block <| gc_seq <| gc_region <| gl_op <| op_rd rfl (rd_move rfl) <| gl_op <| op_rd rfl (rd_move rfl) <| gl_op (op_rd rfl (rd_indexOld hJ.t Try.underlying22 ty_48 rfl rfl (by omega) (by omega)) ?_)
    refine gl_op <| op_rd rfl (rd_fieldAddr rfl (fa_48_3 _)) <| gl_op (op_rd rfl (rd_load Try.underlying46 rfl rfl (ld_slf hJ.t (get_flat JI.cells 4 (fun _ => rfl) hx (j := 3) (by decide) rfl))) ?_)
    refine gl_op <| op_rd rfl (rd_lenSlice Try.underlying46 rfl) <| gl_op (op_rd rfl (rd_gtr rfl rfl) (gk_dec (fun h22 => ?_) (fun h22 => ?_)))
    · refine gl_nil <| gx_then <| gc_cond_t rfl <| gc_seq <| gc_region <| gl_op <| op_rd rfl (rd_assign rfl) <| gl_nil <| gx_then <| gc_ret <| gx_block_ret <| gx_then_ret <| gx_then_ret <| gx_block_ret <| gx_then_ret <| gx_ret1 (.inl rfl) Try.results15 rfl [] (by decide) ?_
      refine ⟨congrArg (Value.int .i64) (Eq.symm ?_), rfl⟩
      unfold checkE
      rw [if_pos]
      unfold lngB
      rw [lag_any, any_yes hx (show lagF x = true by unfold lagF; simp; omega)]
      simp
    refine gl_nil <| gx_then <| gc_cond_f rfl <| gc_skip <| gx_block <| gx_then ?_
    have hf : lagF x = false := by unfold lagF; simp; omega
    refine gc_region <| gl_op <| op_rd rfl (rd_move rfl) <| gl_op (op_rd rfl (by exact rd_addN (b := 1) rfl rfl (by omega)) ?_)
    refine gl_op <| op_rd rfl (rd_assign rfl) <| gl_nil <| gx_then ?_
    exact gx_cut (k + 1) ⟨⟨by omega, snocF hall hx hf⟩, by omega⟩ ⟨rfl, rfl, trivial⟩ ⟨[], by decide, rfl⟩
  refine gl_nil <| gx_then <| gc_cond_f rfl <| gc_exit <| gx_then_exit <| gx_then_exit <| gx_block_exit <| gx_then <| gc_seq <| gc_seq ?_
  have hlong : lngB l = false := by
    unfold lngB
    rw [lag_any, allF hall (by omega)]
    simp; omega
  refine gc_region <| gl_op <| op_rd rfl (rd_assign rfl) <| gl_nil <| gx_then <| gc_block <| gc_loopF (ι := Nat) [(0, _)] [] (fun k1 => k1 ≤ l.length ∧ ∀ (j : Nat) y, j < k1 → l[j]? = some y → validB l.length j y = true) (fun k1 Fr0 => ((4, natV k1) :: Fr0)) (fun k1 Fr0 => Fr0) (fun k1 => l.length - k1) 0 (⟨Nat.zero_le _, fun j y h => absurd h (Nat.not_lt_zero j)⟩) ⟨rfl, rfl, trivial⟩ ⟨[], by decide, rfl⟩ ?_
  rintro k1 ⟨hk1, hall1⟩
  refine gc_seq <| gc_seq <| gc_region <| gl_op <| op_rd rfl (rd_move rfl) <| gl_op <| op_rd rfl (rd_move rfl) <| gl_op <| op_rd rfl (rd_lenSlice Try.underlying22 rfl) <| gl_op (op_rd rfl (rd_lss rfl rfl) (gk_dec (fun h26 => ?_) (fun h26 => ?_)))
  · obtain ⟨x1, hx1⟩ := get_some (show k1 < l.length by omega)
    have hxm := List.mem_of_getElem? hx1
    refine gl_nil <| gx_then <| gc_cond_t rfl <| gc_skip <| gx_then <| gc_seq <| gc_block <| gc_seq <| gc_region <| gl_op <| op_rd rfl (rd_move rfl) <| gl_op <| op_rd rfl (rd_move rfl) <| gl_op (op_rd rfl (rd_indexOld hJ.t Try.underlying22 ty_48 rfl rfl (by omega) (by omega)) ?_)
    refine gl_op (op_rd rfl (rd_loadAgg Try.underlying48 rfl ty_48 rfl (cs_slN hJ.t (flat_drop_get JI.cells 4 (fun _ => rfl) hx1)) rfl) ?_)
    refine gl_op <| op_rd rfl (rd_move rfl) <| gl_op <| op_rd rfl (rd_move rfl) <| gl_op <| op_rd rfl (rd_lenSlice Try.underlying22 rfl) ?_
    simp only [JI.cells]
    refine gl_op (op_call rfl (vf := []) (vc := []) rfl rfl Try.call35 (fun w1 ho => rjob_ok x1 (hle.n x1 hxm) (hle.r x1 hxm) l.length k1 (by omega) w1 ((hJ.r x1 hxm).at ho)) ?_)
    rintro _ _ ⟨rfl, rfl⟩
    refine gk_bool (fun hv => ?_) (fun hv => ?_)
    · refine gl_op <| op_rd rfl (rd_not rfl) <| gl_nil <| gx_then <| gc_cond_f rfl <| gc_skip <| gx_block <| gx_then <| gc_region <| gl_op <| op_rd rfl (rd_move rfl) <| gl_op (op_rd rfl (by exact rd_addN (b := 1) rfl rfl (by omega)) ?_)
      refine gl_op <| op_rd rfl (rd_assign rfl) <| gl_nil <| gx_then ?_
      exact gx_cut (k1 + 1) ⟨⟨by omega, fun j y hj hy => by
        rcases Nat.lt_or_eq_of_le (Nat.le_of_lt_succ hj) with h1 | rfl
        · exact hall1 j y h1 hy
        · rw [hx1] at hy; rw [← Option.some.inj hy]; exact hv⟩, by omega⟩ ⟨rfl, rfl, trivial⟩ ⟨[], by decide, rfl⟩
    refine gl_op <| op_rd rfl (rd_not rfl) <| gl_nil <| gx_then <| gc_cond_t rfl <| gc_seq <| gc_region <| gl_op <| op_rd rfl (rd_assign rfl) <| gl_nil <| gx_then <| gc_ret <| gx_block_ret <| gx_then_ret <| gx_then_ret <| gx_block_ret <| gx_then_ret <| gx_ret1 (.inl rfl) Try.results15 rfl [] (by decide) ?_
    refine ⟨congrArg (Value.int .i64) (Eq.symm ?_), rfl⟩
    unfold checkE
    rw [if_neg (by rw [hlong]; decide), if_pos (allB_no hx1 hv)]
  refine gl_nil <| gx_then <| gc_cond_f rfl <| gc_exit <| gx_then_exit <| gx_then_exit <| gx_block_exit <| gx_then <| gc_seq <| gc_seq ?_
  have hallB : allB l = true := allB_yes fun j y hy => hall1 j y (by have := (List.getElem?_eq_some_iff.1 hy).1; omega) hy
  refine gc_region <| gl_op <| op_rd rfl (rd_assign rfl) <| gl_nil <| gx_then <| gc_block <| gc_loopF (ι := Nat) [(0, _)] [] (fun i => i ≤ l.length ∧ ∀ q, q < i → ∀ k, k < q → namD l q k) (fun i Fr0 => ((5, natV i) :: Fr0)) (fun i Fr0 => Fr0) (fun i => l.length - i) 0 (⟨Nat.zero_le _, fun q hq => absurd hq (Nat.not_lt_zero q)⟩) ⟨rfl, rfl, trivial⟩ ⟨[], by decide, rfl⟩ ?_
  rintro i ⟨hi, halli⟩
  refine gc_seq <| gc_seq <| gc_region <| gl_op <| op_rd rfl (rd_move rfl) <| gl_op <| op_rd rfl (rd_move rfl) <| gl_op <| op_rd rfl (rd_lenSlice Try.underlying22 rfl) <| gl_op (op_rd rfl (rd_lss rfl rfl) (gk_dec (fun h41 => ?_) (fun h41 => ?_)))
  · obtain ⟨x, hx⟩ := get_some (show i < l.length by omega)
    refine gl_nil <| gx_then <| gc_cond_t rfl <| gc_skip <| gx_then <| gc_seq <| gc_block <| gc_seq <| gc_region <| gl_op <| op_rd rfl (rd_assign rfl) <| gl_nil <| gx_then <| gc_block <| gc_loopF (ι := Nat) [(0, _), (5, _)] [] (fun k2 => k2 ≤ i ∧ ∀ k, k < k2 → namD l i k) (fun k2 Fr0 => ((6, natV k2) :: Fr0)) (fun k2 Fr0 => Fr0) (fun k2 => i - k2) 0 (⟨Nat.zero_le _, fun q hq => absurd hq (Nat.not_lt_zero q)⟩) ⟨rfl, rfl, rfl, trivial⟩ ⟨[], by decide, rfl⟩ ?_
    rintro k2 ⟨hk2, hallk⟩
    refine gc_seq <| gc_seq <| gc_region <| gl_op <| op_rd rfl (rd_move rfl) <| gl_op <| op_rd rfl (rd_move rfl) <| gl_op (op_rd rfl (rd_lss rfl rfl) (gk_dec (fun h46 => ?_) (fun h46 => ?_)))
    · obtain ⟨y, hy⟩ := get_some (show k2 < l.length by omega)
      refine gl_nil <| gx_then <| gc_cond_t rfl <| gc_skip <| gx_then <| gc_seq <| gc_block <| gc_seq <| gc_drawP [] true 10 rfl <| ga_first 0 (bm 11 1) rfl rfl rfl rfl (by kernel_rfl) (by kernel_rfl) ⟨[], by decide, rfl⟩ (qt_rd (rd_move rfl)) ?_
      refine ga_first 1 (bm 11 3) rfl rfl rfl rfl (by kernel_rfl) (by kernel_rfl) ⟨[], by decide, rfl⟩ (qt_rd (rd_move rfl)) ?_
      refine ga_first 2 (bm 11 7) rfl rfl rfl rfl (by kernel_rfl) (by kernel_rfl) ⟨[], by decide, rfl⟩ (qt_rd (rd_indexOld hJ.t Try.underlying22 ty_48 rfl rfl (by omega) (by omega))) ?_
      refine ga_first 3 (bm 11 15) rfl rfl rfl rfl (by kernel_rfl) (by kernel_rfl) ⟨[], by decide, rfl⟩ (qt_rd (rd_fieldAddr rfl (fa_48_0 _))) ?_
      refine ga_first 4 (bm 11 31) rfl rfl rfl rfl (by kernel_rfl) (by kernel_rfl) ⟨[], by decide, rfl⟩ (qt_rd (rd_load Try.underlying9 rfl rfl (ld_slf hJ.t (get_flat JI.cells 4 (fun _ => rfl) hy (j := 0) (by decide) rfl)))) ?_
      refine ga_first 5 (bm 11 63) rfl rfl rfl rfl (by kernel_rfl) (by kernel_rfl) ⟨[], by decide, rfl⟩ (qt_rd (rd_move rfl)) ?_
      refine ga_first 6 (bm 11 127) rfl rfl rfl rfl (by kernel_rfl) (by kernel_rfl) ⟨[], by decide, rfl⟩ (qt_rd (rd_move rfl)) ?_
      refine ga_first 7 (bm 11 255) rfl rfl rfl rfl (by kernel_rfl) (by kernel_rfl) ⟨[], by decide, rfl⟩ (qt_rd (rd_indexOld hJ.t Try.underlying22 ty_48 rfl rfl (by omega) (by omega))) ?_
      refine ga_first 8 (bm 11 511) rfl rfl rfl rfl (by kernel_rfl) (by kernel_rfl) ⟨[], by decide, rfl⟩ (qt_rd (rd_fieldAddr rfl (fa_48_0 _))) ?_
      refine ga_first 9 (bm 11 1023) rfl rfl rfl rfl (by kernel_rfl) (by kernel_rfl) ⟨[], by decide, rfl⟩ (qt_rd (rd_load Try.underlying9 rfl rfl (ld_slf hJ.t (get_flat JI.cells 4 (fun _ => rfl) hx (j := 0) (by decide) rfl)))) ?_
      refine ga_first 10 (bm 11 2047) rfl rfl rfl rfl (by kernel_rfl) (by kernel_rfl) ⟨[], by decide, rfl⟩ (qt_rd (rd_eqlStrD Try.underlying9 (by kernel_rfl) rfl rfl)) ?_
      refine ga_end (by kernel_rfl) (.inr ⟨[], by decide, rfl⟩) ?_
      refine gx_then <| gc_cond rfl (fun h59 => ?_) (fun h59 => ?_)
      · refine gc_seq <| gc_region <| gl_op <| op_rd rfl (rd_assign rfl) <| gl_nil <| gx_then <| gc_ret <| gx_block_ret <| gx_then_ret <| gx_then_ret <| gx_block_ret <| gx_block_ret <| gx_then_ret <| gx_then_ret <| gx_block_ret <| gx_then_ret <| gx_ret1 (.inl rfl) Try.results15 rfl [] (by decide) ?_
        refine ⟨congrArg (Value.int .i64) (Eq.symm ?_), rfl⟩
        unfold checkE
        rw [if_neg (by rw [hlong]; decide), if_neg (by rw [hallB]; decide), if_pos (nd_no hx hy (by omega) (by simpa using h59))]
      refine gc_skip <| gx_block <| gx_then <| gc_region <| gl_op <| op_rd rfl (rd_move rfl) <| gl_op (op_rd rfl (by exact rd_addN (b := 1) rfl rfl (by omega)) ?_)
      refine gl_op <| op_rd rfl (rd_assign rfl) <| gl_nil <| gx_then ?_
      exact gx_cut (k2 + 1) ⟨⟨by omega, fun k hk => by
        rcases Nat.lt_or_eq_of_le (Nat.le_of_lt_succ hk) with h1 | rfl
        · exact hallk k h1
        · unfold namD; rw [getD_some hy, getD_some hx]; simpa using h59⟩, by omega⟩ ⟨rfl, rfl, rfl, trivial⟩ ⟨[], by decide, rfl⟩
    refine gl_nil <| gx_then <| gc_cond_f rfl <| gc_exit <| gx_then_exit <| gx_then_exit <| gx_block_exit <| gx_block <| gx_then <| gc_region <| gl_op <| op_rd rfl (rd_move rfl) <| gl_op (op_rd rfl (by exact rd_addN (b := 1) rfl rfl (by omega)) ?_)
    refine gl_op <| op_rd rfl (rd_assign rfl) <| gl_nil <| gx_then ?_
    exact gx_cut (i + 1) ⟨⟨by omega, fun q hq => by
      rcases Nat.lt_or_eq_of_le (Nat.le_of_lt_succ hq) with h1 | rfl
      · exact halli q h1
      · exact fun k hk => hallk k (by omega)⟩, by omega⟩ ⟨rfl, rfl, trivial⟩ ⟨[], by decide, rfl⟩
  refine gl_nil <| gx_then <| gc_cond_f rfl <| gc_exit <| gx_then_exit <| gx_then_exit <| gx_block_exit <| gx_then <| gc_seq <| gc_seq ?_
  have hnd : (names l).Nodup := nd_yes fun q hq => halli q (by omega)
  obtain ⟨n, rfl, hj, hpre⟩ := val_of hlong hallB
  rw [List.length_map]
  refine gc_region <| gl_op <| op_rd rfl (rd_move rfl) <| gl_op (op_call rfl (vf := []) (vc := []) rfl rfl Try.call36 (fun w1 ho => circle_ok a c n hj w1 (JnIn.of (hJ.at ho))) ?_)
  rintro _ _ ⟨rfl, rfl⟩
  refine gk_bool (fun hc => ?_) (fun hc => ?_)
  · refine gl_nil <| gx_then <| gc_cond_t rfl <| gc_seq <| gc_region <| gl_op <| op_rd rfl (rd_assign rfl) <| gl_nil <| gx_then <| gc_ret <| gx_then_ret <| gx_ret1 (.inl rfl) Try.results15 rfl [] (by decide) ?_
    refine ⟨congrArg (Value.int .i64) (Eq.symm ?_), rfl⟩
    rw [checkE_ok hlong hallB hnd, hpre, List.length_map, hc]; rfl
  refine gl_nil <| gx_then <| gc_cond_f rfl <| gc_skip <| gx_then <| gc_seq <| gc_region <| gl_op <| op_rd rfl (rd_assign rfl) <| gl_nil <| gx_then <| gc_ret <| gx_ret1 (.inl rfl) Try.results15 rfl [] (by decide) ?_
  refine ⟨congrArg (Value.int .i64) (Eq.symm ?_), rfl⟩
  rw [checkE_ok hlong hallB hnd, hpre, List.length_map, hc]; rfl
end Go.Proofs.Ytafmcflggikbfaa
namespace Go.Proofs.Ytafmcflggikbfaa
open Go.Gv
open Go.RowKit
open Go.Sn
open Go.Wk
open Sx
set_option maxRecDepth 100000 in
set_option maxHeartbeats 1000000 in
theorem Check_ok (a : Option Addr) (c : Nat) (l : List JI) (hle : JsLe l) (w0 : World) (hJ : JsIn a l w0 []) : Sp Try.prog 14 [.slice a l.length c] w0 [] (RV (.int .i64 (checkE l))) := by
  have hln := hle.t
  refine spec_enter Try.func14 rfl Try.ntmps14 rfl (Own.refl _) ?_
  simp only [argEnv]
  refine gc_seq <| gc_region <| gl_op <| op_rd rfl (rd_assign rfl) <| gl_nil <| gx_then <| gc_seq <| gc_seq <| gc_region <| gl_op <| op_rd rfl (rd_move rfl) <| gl_op <| op_rd rfl (rd_lenSlice Try.underlying22 rfl) <| gl_op (op_rd rfl (rd_gtr rfl rfl) (gk_dec (fun h10 => ?_) (fun h10 => ?_)))
  · refine gl_op <| op_rd rfl (rd_move rfl) <| gl_no rfl rfl rfl <| gl_no rfl rfl rfl <| gl_op <| op_rd rfl (rd_pick_t rfl rfl) <| gl_nil <| gx_then <| gc_cond_t rfl <| gc_seq <| gc_region <| gl_op <| op_rd rfl (rd_assign rfl) <| gl_nil <| gx_then <| gc_ret <| gx_then_ret <| gx_ret1 (.inl rfl) Try.results14 rfl [] (by decide) ?_
    refine ⟨congrArg (Value.int .i64) (Eq.symm ?_), rfl⟩
    unfold checkE
    rw [if_pos (by unfold lngB; rw [lag_any]; (simp; omega))]
  refine gl_op <| op_rd rfl (rd_move rfl) <| gl_yes rfl rfl <| op_rd rfl (rd_move rfl) <| gl_yes rfl rfl (op_call rfl (vf := []) (vc := []) rfl rfl Try.call32 (fun w1 ho => containsLag_ok a c l hle w1 (hJ.at ho)) ?_)
  rintro _ _ ⟨rfl, rfl⟩
  refine gk_bool (fun hc => ?_) (fun hc => ?_)
  · refine gl_op <| op_rd rfl (rd_pick_f rfl rfl) <| gl_nil <| gx_then <| gc_cond_t rfl <| gc_seq <| gc_region <| gl_op <| op_rd rfl (rd_assign rfl) <| gl_nil <| gx_then <| gc_ret <| gx_then_ret <| gx_ret1 (.inl rfl) Try.results14 rfl [] (by decide) ?_
    refine ⟨congrArg (Value.int .i64) (Eq.symm ?_), rfl⟩
    unfold checkE
    rw [if_pos (by unfold lngB; rw [lag_any]; (rw [hc]; simp; done))]
  refine gl_op <| op_rd rfl (rd_pick_f rfl rfl) <| gl_nil <| gx_then <| gc_cond_f rfl <| gc_skip <| gx_then <| gc_seq ?_
  have hlong : lngB l = false := by
    unfold lngB
    rw [lag_any, hc]
    simp; omega
  refine gc_region <| gl_op <| op_rd rfl (rd_move rfl) <| gl_op <| op_rd rfl (rd_lenSlice Try.underlying22 rfl) <| gl_op (op_makeNam (N := l.length) Try.underlying63 rfl rfl (fun b17 => ?_))
  refine gl_op <| op_rd rfl (rd_assign rfl) <| gl_nil <| gx_then <| gc_seq <| gc_seq ?_
  rw [← putP_zero l]
  refine gc_region <| gl_op <| op_rd rfl (rd_move rfl) <| gl_op <| op_rd rfl (rd_lenSlice Try.underlying22 rfl) <| gl_op <| op_rd rfl (rd_move rfl) <| gl_nil <| gx_then <| gc_block <| gc_loopF (ι := Nat) [(0, _), (3, _), (18, _), (19, _)] [] (fun k => k ≤ l.length ∧ ∀ (j : Nat) y, j < k → l[j]? = some y → validB l.length j y = true) (fun k Fr0 => ((20, natV k) :: Fr0)) (fun k Fr0 => (.obj b17 (namO (putP l k)) :: Fr0)) (fun k => l.length - k) 0 (⟨Nat.zero_le _, fun j y h => absurd h (Nat.not_lt_zero j)⟩) ⟨rfl, rfl, rfl, rfl, rfl, trivial⟩ ⟨[0], by decide, rfl⟩ ?_
  rintro k ⟨hk, hall⟩
  refine gc_seq <| gc_region <| gl_op (op_rd rfl (rd_lss rfl rfl) (gk_dec (fun h21 => ?_) (fun h21 => ?_)))
  · obtain ⟨x, hx⟩ := get_some (show k < l.length by omega)
    have hxm := List.mem_of_getElem? hx
    refine gl_nil <| gx_then <| gc_seq <| gc_cond_t rfl <| gc_skip <| gx_then <| gc_seq <| gc_block <| gc_seq <| gc_region <| gl_op <| op_rd rfl (rd_move rfl) <| gl_op (op_rd rfl (rd_indexOld hJ.t Try.underlying22 ty_48 rfl rfl (by omega) (by omega)) ?_)
    refine gl_op (op_rd rfl (rd_loadAgg Try.underlying48 rfl ty_48 rfl (cs_slN hJ.t (flat_drop_get JI.cells 4 (fun _ => rfl) hx)) rfl) ?_)
    refine gl_op (op_alloc ty_48 rfl rfl (fun b5 => ?_))
    refine gl_op <| op_rd rfl (rd_assign rfl) <| gl_op (op_storeAgg 0 ty_48 rfl rfl rfl rfl rfl rfl (by rfl) ?_)
    refine gl_nil <| gx_then <| gc_seq <| gc_seq <| gc_region <| gl_op <| op_rd rfl (rd_move rfl) <| gl_op <| op_rd rfl (rd_move rfl) <| gl_op (op_call rfl (vf := []) (vc := []) rfl rfl Try.call34 (fun w1 ho => valid_ok a c l hle w1 (hJ.at ho) k x hx) ?_)
    rintro _ _ ⟨rfl, rfl⟩
    refine gk_bool (fun hv => ?_) (fun hv => ?_)
    · refine gl_op <| op_rd rfl (rd_not rfl) <| gl_nil <| gx_then <| gc_cond_f rfl <| gc_skip <| gx_then <| gc_region <| gl_op <| op_rd rfl (rd_move rfl) <| gl_op <| op_rd rfl (rd_fieldAddr rfl (fa_48_0 _)) <| gl_op (op_rd rfl (rd_load Try.underlying9 rfl rfl (by exact ld_blk 0 rfl rfl)) ?_)
      refine gl_op (op_rd rfl (rd_build rfl (fun _ => bd_65_)) ?_)
      refine gl_op <| op_putNam 1 (ks := putP l k) (kk := x.name) Try.underlying63 Try.underlying9 rfl rfl rfl rfl rfl <| gl_nil <| gx_block <| gx_then <| gc_region <| gl_op (op_rd rfl (by exact rd_addN (b := 1) rfl rfl (by omega)) ?_)
      refine gl_op <| op_rd rfl (rd_move rfl) <| gl_nil <| gx_then ?_
      rw [← putP_next hx]
      exact gx_cut (k + 1) ⟨⟨by omega, fun j y hj hy => by
        rcases Nat.lt_or_eq_of_le (Nat.le_of_lt_succ hj) with h1 | rfl
        · exact hall j y h1 hy
        · rw [hx] at hy; rw [← Option.some.inj hy]; exact hv⟩, by omega⟩ ⟨rfl, rfl, rfl, rfl, rfl, trivial⟩ ⟨[1], by decide, rfl⟩
    refine gl_op <| op_rd rfl (rd_not rfl) <| gl_nil <| gx_then <| gc_cond_t rfl <| gc_seq <| gc_region <| gl_op <| op_rd rfl (rd_assign rfl) <| gl_nil <| gx_then <| gc_ret <| gx_then_ret <| gx_block_ret <| gx_then_ret <| gx_then_ret <| gx_block_ret <| gx_then_ret <| gx_ret1 (.inl rfl) Try.results14 rfl [] (by decide) ?_
    refine ⟨congrArg (Value.int .i64) (Eq.symm ?_), rfl⟩
    unfold checkE
    rw [if_neg (by rw [hlong]; decide), if_pos (allB_no hx hv)]
  have hk9 : k = l.length := by omega
  subst hk9
  have hallB : allB l = true := allB_yes fun j y hy => hall j y (List.getElem?_eq_some_iff.1 hy).1 hy
  have hpl := putP_le l l.length
  refine gl_nil <| gx_then <| gc_seq <| gc_cond_f rfl <| gc_exit <| gx_then_exit <| gx_then_exit <| gx_block_exit <| gx_then <| gc_seq <| gc_seq <| gc_region <| gl_op <| op_rd rfl (rd_move rfl) <| gl_op <| op_rd rfl (rd_lenNam 0 rfl Try.underlying63 rfl) <| gl_op <| op_rd rfl (rd_move rfl) <| gl_op <| op_rd rfl (rd_lenSlice Try.underlying22 rfl) <| gl_op (op_rd rfl (rd_lss rfl rfl) (gk_dec (fun h38 => ?_) (fun h38 => ?_)))
  · refine gl_nil <| gx_then <| gc_cond_t rfl <| gc_seq <| gc_region <| gl_op <| op_rd rfl (rd_assign rfl) <| gl_nil <| gx_then <| gc_ret <| gx_then_ret <| gx_ret1 (.inl rfl) Try.results14 rfl [] (by decide) ?_
    refine ⟨congrArg (Value.int .i64) (Eq.symm ?_), rfl⟩
    unfold checkE
    rw [if_neg (by rw [hlong]; decide), if_neg (by rw [hallB]; decide), if_pos ((putP_all l).1 (by omega))]
  have hnd : (names l).Nodup := Classical.byContradiction fun h => by have := (putP_all l).2 h; omega
  obtain ⟨n, rfl, hj, hpre⟩ := val_of hlong hallB
  rw [List.length_map]
  refine gl_nil <| gx_then <| gc_cond_f rfl <| gc_skip <| gx_then <| gc_seq <| gc_seq <| gc_region <| gl_op <| op_rd rfl (rd_move rfl) <| gl_op (op_call rfl (vf := []) (vc := []) rfl rfl Try.call26 (fun w1 ho => order_ok a c n hj w1 (JnIn.of (hJ.at ho))) ?_)
  rintro _ _ ⟨o, r41, c41, rfl, rfl, hO⟩
  refine gl_op <| op_rd rfl (rd_move rfl) <| gl_op <| op_rd rfl (rd_extract rfl rfl) <| gl_op <| op_rd rfl (rd_extract rfl rfl) <| gk_bool (fun h43 => ?_) (fun h43 => ?_)
  · refine gl_op <| op_rd rfl (rd_assign rfl) <| gl_op <| op_rd rfl (rd_assign rfl) <| gl_nil <| gx_then <| gc_seq <| gc_region <| gl_op <| op_rd rfl (rd_move rfl) <| gl_op <| op_rd rfl (rd_not rfl) <| gl_nil <| gx_then <| gc_cond_f rfl <| gc_skip <| gx_then <| gc_seq <| gc_region <| gl_op <| op_rd rfl (rd_assign rfl) <| gl_nil <| gx_then <| gc_ret <| gx_ret1 (.inl rfl) Try.results14 rfl [] (by decide) ?_
    refine ⟨congrArg (Value.int .i64) (Eq.symm ?_), rfl⟩
    rw [checkE_ok hlong hallB hnd, hpre, List.length_map, circle_iff hO, h43]; rfl
  refine gl_op <| op_rd rfl (rd_assign rfl) <| gl_op <| op_rd rfl (rd_assign rfl) <| gl_nil <| gx_then <| gc_seq <| gc_region <| gl_op <| op_rd rfl (rd_move rfl) <| gl_op <| op_rd rfl (rd_not rfl) <| gl_nil <| gx_then <| gc_cond_t rfl <| gc_seq <| gc_region <| gl_op <| op_rd rfl (rd_assign rfl) <| gl_nil <| gx_then <| gc_ret <| gx_then_ret <| gx_ret1 (.inl rfl) Try.results14 rfl [] (by decide) ?_
  refine ⟨congrArg (Value.int .i64) (Eq.symm ?_), rfl⟩
  rw [checkE_ok hlong hallB hnd, hpre, List.length_map, circle_iff hO, h43]; rfl
end Go.Proofs.Ytafmcflggikbfaa
