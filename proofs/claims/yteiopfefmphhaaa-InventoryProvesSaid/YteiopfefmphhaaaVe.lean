import Derived.Test.YteiopfefmphhaaaVb
import Derived.Test.YteiopfefmphhaaaVc
import Derived.Test.YteiopfefmphhaaaVd
/- The assignment is of least price; Best is the least list; in plain Lean. -/
set_option linter.unusedSimpArgs false
set_option linter.unusedVariables false
set_option linter.unnecessarySimpa false
set_option autoImplicit false
set_option linter.unusedVariables false
namespace Go.Proofs.Yteiopfefmphhaaa
open Go.Gv
open Go.RowKit
namespace Iv
/-! prices as numbers -/
def key (p : Pr) : Int := p.a * 1125899906842624 + p.b
structure Sm (k : Int) (p : Pr) : Prop where
  a0 : -k ≤ p.a
  a1 : p.a ≤ k
  b0 : -k ≤ p.b
  b1 : p.b ≤ k
theorem Sm.mono {k l : Int} {p : Pr} (h : Sm k p) (hkl : k ≤ l) : Sm l p := by
  obtain ⟨h1, h2, h3, h4⟩ := h
  exact ⟨by omega, by omega, by omega, by omega⟩
def big : Int := 281474976710656
theorem wr_eq {z : Int} (h0 : -9223372036854775808 ≤ z) (h1 : z ≤ 9223372036854775807) : wr z = z := wrap64_ok h0 h1
theorem add_eq {p q : Pr} {k l : Int} (hp : Sm k p) (hq : Sm l q) (hk : k + l ≤ 9223372036854775807) : p.add q = ⟨p.a + q.a, p.b + q.b⟩ := by
  obtain ⟨h1, h2, h3, h4⟩ := hp
  obtain ⟨g1, g2, g3, g4⟩ := hq
  unfold Pr.add
  rw [wr_eq (by omega) (by omega), wr_eq (by omega) (by omega)]
theorem sub_eq {p q : Pr} {k l : Int} (hp : Sm k p) (hq : Sm l q) (hk : k + l ≤ 9223372036854775807) : p.sub q = ⟨p.a - q.a, p.b - q.b⟩ := by
  obtain ⟨h1, h2, h3, h4⟩ := hp
  obtain ⟨g1, g2, g3, g4⟩ := hq
  unfold Pr.sub
  rw [wr_eq (by omega) (by omega), wr_eq (by omega) (by omega)]
theorem Sm.add {p q : Pr} {k l : Int} (hp : Sm k p) (hq : Sm l q) (hk : k + l ≤ 9223372036854775807) : Sm (k + l) (p.add q) := by
  rw [add_eq hp hq hk]
  obtain ⟨h1, h2, h3, h4⟩ := hp
  obtain ⟨g1, g2, g3, g4⟩ := hq
  exact ⟨by simp only; omega, by simp only; omega, by simp only; omega, by simp only; omega⟩
theorem Sm.sub {p q : Pr} {k l : Int} (hp : Sm k p) (hq : Sm l q) (hk : k + l ≤ 9223372036854775807) : Sm (k + l) (p.sub q) := by
  rw [sub_eq hp hq hk]
  obtain ⟨h1, h2, h3, h4⟩ := hp
  obtain ⟨g1, g2, g3, g4⟩ := hq
  exact ⟨by simp only; omega, by simp only; omega, by simp only; omega, by simp only; omega⟩
theorem key_add {p q : Pr} {k l : Int} (hp : Sm k p) (hq : Sm l q) (hk : k + l ≤ 9223372036854775807) : key (p.add q) = key p + key q := by
  rw [add_eq hp hq hk]; unfold key; simp only; omega
theorem key_sub {p q : Pr} {k l : Int} (hp : Sm k p) (hq : Sm l q) (hk : k + l ≤ 9223372036854775807) : key (p.sub q) = key p - key q := by
  rw [sub_eq hp hq hk]; unfold key; simp only; omega
theorem lt_iff (p q : Pr) : p.lt q = true ↔ p.a < q.a ∨ (p.a = q.a ∧ p.b < q.b) := by unfold Pr.lt; simp
theorem lt_key {p q : Pr} (hp : -big ≤ p.b ∧ p.b ≤ big) (hq : -big ≤ q.b ∧ q.b ≤ big) : p.lt q = true ↔ key p < key q := by
  rw [lt_iff]; unfold key big at *; omega
theorem lt_trans {p q r : Pr} (h1 : p.lt q = false) (h2 : q.lt r = false) : p.lt r = false := by
  rw [← Bool.not_eq_true, lt_iff] at *; omega
theorem lt_of {p q r : Pr} (h1 : p.lt q = true) (h2 : r.lt q = false) : r.lt p = false := by
  rw [← Bool.not_eq_true, lt_iff] at *; omega
theorem lt_irr (p : Pr) : p.lt p = false := by rw [← Bool.not_eq_true, lt_iff]; omega
/-! the scan -/
section
variable {t : List (List Pr)} {taken : List Bool} {u v : List Pr} {row used : List Nat} {at_ : Nat} {s : Sc}
theorem scan_len (q : Nat) : (scanTo t taken u v row used at_ s q).low.length = s.low.length ∧ (scanTo t taken u v row used at_ s q).way.length = s.way.length := by
  induction q with
  | zero => exact ⟨rfl, rfl⟩
  | succ q ih =>
    rw [scanTo_succ]
    unfold scanOne scanN scanX
    split
    · exact ih
    · split <;> split <;> simpa using ih
theorem scan_skip (q : Nat) : ∀ j, (q < j ∨ j = 0 ∨ skipJ taken used j = true) → gp (scanTo t taken u v row used at_ s q).low j = gp s.low j ∧ gn (scanTo t taken u v row used at_ s q).way j = gn s.way j := by
  induction q with
  | zero => intro j _; exact ⟨rfl, rfl⟩
  | succ q ih =>
    intro j hj
    have h0 := ih j (by rcases hj with h | h | h; exact .inl (by omega); exact .inr (.inl h); exact .inr (.inr h))
    rw [scanTo_succ]
    unfold scanOne
    split
    · exact h0
    · rename_i hs
      have hne : ¬ (q + 1 = j) := by
        rintro rfl
        rcases hj with h | h | h
        · omega
        · omega
        · exact hs h
      have hx : gp (scanX (redP t u v row at_ (q + 1)) at_ (q + 1) (scanTo t taken u v row used at_ s q)).low j = gp s.low j ∧ gn (scanX (redP t u v row at_ (q + 1)) at_ (q + 1) (scanTo t taken u v row used at_ s q)).way j = gn s.way j := by
        unfold scanX
        split
        · simp only
          exact ⟨by rw [← h0.1]; unfold gp; simp [List.getElem?_set_ne hne], by rw [← h0.2]; unfold gn; simp [List.getElem?_set_ne hne]⟩
        · exact h0
      unfold scanN
      split
      · exact hx
      · exact hx
theorem scan_do (hl : s.low.length = s.way.length) (q : Nat) : q < s.low.length → ∀ j, 1 ≤ j → j ≤ q → skipJ taken used j = false →
    (((redP t u v row at_ j).lt (gp s.low j) = true ∧ gp (scanTo t taken u v row used at_ s q).low j = redP t u v row at_ j ∧ gn (scanTo t taken u v row used at_ s q).way j = at_) ∨
     ((redP t u v row at_ j).lt (gp s.low j) = false ∧ gp (scanTo t taken u v row used at_ s q).low j = gp s.low j ∧ gn (scanTo t taken u v row used at_ s q).way j = gn s.way j)) := by
  induction q with
  | zero => intro _ j h1 h2; omega
  | succ q ih =>
    intro hq j h1 h2 hs
    have hlen := scan_len (t := t) (taken := taken) (u := u) (v := v) (row := row) (used := used) (at_ := at_) (s := s) q
    by_cases hj : j = q + 1
    · subst hj
      have h0 := scan_skip (t := t) (taken := taken) (u := u) (v := v) (row := row) (used := used) (at_ := at_) (s := s) q (q + 1) (.inl (by omega))
      rw [scanTo_succ]
      unfold scanOne
      rw [if_neg (by rw [hs]; decide)]
      have hx : ∀ z : Sc, (scanN (q + 1) z).low = z.low ∧ (scanN (q + 1) z).way = z.way := fun z => by unfold scanN; split <;> exact ⟨rfl, rfl⟩
      rw [(hx _).1, (hx _).2]
      unfold scanX
      rw [h0.1]
      cases hb : (redP t u v row at_ (q + 1)).lt (gp s.low (q + 1)) with
      | true =>
        rw [if_pos rfl]
        refine .inl ⟨rfl, ?_, ?_⟩
        · simp only; rw [gp_set (by rw [hlen.1]; omega), if_pos rfl]
        · simp only; rw [gn_set (by rw [hlen.2]; omega), if_pos rfl]
      | false =>
        rw [if_neg (by decide)]
        exact .inr ⟨rfl, h0.1, h0.2⟩
    · have h3 := ih (by omega) j h1 (by omega) hs
      have hx : gp (scanTo t taken u v row used at_ s (q + 1)).low j = gp (scanTo t taken u v row used at_ s q).low j ∧ gn (scanTo t taken u v row used at_ s (q + 1)).way j = gn (scanTo t taken u v row used at_ s q).way j := by
        rw [scanTo_succ]
        unfold scanOne
        split
        · exact ⟨rfl, rfl⟩
        · have hx : ∀ z : Sc, (scanN (q + 1) z).low = z.low ∧ (scanN (q + 1) z).way = z.way := fun z => by unfold scanN; split <;> exact ⟨rfl, rfl⟩
          rw [(hx _).1, (hx _).2]
          unfold scanX
          split
          · simp only; rw [gp_set (by rw [hlen.1]; omega), gn_set (by rw [hlen.2]; omega), if_neg (by omega), if_neg (by omega)]; exact ⟨rfl, rfl⟩
          · exact ⟨rfl, rfl⟩
      rw [hx.1, hx.2]; exact h3
theorem scan_next (hl : s.low.length = s.way.length) (h0 : s.next = 0) (q : Nat) : q < s.low.length →
    (((scanTo t taken u v row used at_ s q).next = 0 ∧ (scanTo t taken u v row used at_ s q).step = s.step) ∨
      (1 ≤ (scanTo t taken u v row used at_ s q).next ∧ (scanTo t taken u v row used at_ s q).next ≤ q ∧ skipJ taken used (scanTo t taken u v row used at_ s q).next = false ∧ (scanTo t taken u v row used at_ s q).step = gp (scanTo t taken u v row used at_ s q).low (scanTo t taken u v row used at_ s q).next)) ∧
    (∀ j, 1 ≤ j → j ≤ q → skipJ taken used j = false → (gp (scanTo t taken u v row used at_ s q).low j).lt (scanTo t taken u v row used at_ s q).step = false) := by
  induction q with
  | zero => intro _; exact ⟨.inl ⟨h0, rfl⟩, fun j h1 h2 => by omega⟩
  | succ q ih =>
    intro hq
    obtain ⟨h1, h2⟩ := ih (by omega)
    have hlen := scan_len (t := t) (taken := taken) (u := u) (v := v) (row := row) (used := used) (at_ := at_) (s := s) q
    rw [scanTo_succ]
    generalize scanTo t taken u v row used at_ s q = z at h1 h2 hlen ⊢
    unfold scanOne
    split
    · rename_i hs
      refine ⟨?_, fun j h3 h4 h5 => ?_⟩
      · rcases h1 with h1 | ⟨a, b, c⟩
        · exact .inl h1
        · exact .inr ⟨a, by omega, c⟩
      · by_cases hj : j = q + 1
        · subst hj; rw [hs] at h5; cases h5
        · exact h2 j h3 (by omega) h5
    · rename_i hs
      have hs' : skipJ taken used (q + 1) = false := by simpa using hs
      obtain ⟨y, hy, hy1, hy2, hy3⟩ : ∃ y, scanX (redP t u v row at_ (q + 1)) at_ (q + 1) z = y ∧ (∀ j, j ≠ q + 1 → gp y.low j = gp z.low j) ∧ y.step = z.step ∧ y.next = z.next := by
        refine ⟨_, rfl, ?_⟩
        unfold scanX
        split
        · exact ⟨fun j hj => by simp only; rw [gp_set (by rw [hlen.1]; omega), if_neg (by omega)], rfl, rfl⟩
        · exact ⟨fun j _ => rfl, rfl, rfl⟩
      rw [hy]
      unfold scanN
      split
      · rename_i hlt
        refine ⟨.inr ⟨by simp only; omega, by simp only; omega, hs', rfl⟩, fun j h3 h4 h5 => ?_⟩
        simp only
        by_cases hj : j = q + 1
        · subst hj; exact lt_irr _
        · rw [hy1 j hj]
          rw [hy2] at hlt
          exact lt_of hlt (h2 j h3 (by omega) h5)
      · rename_i hlt
        have hlt' : (gp y.low (q + 1)).lt y.step = false := by simpa using hlt
        refine ⟨?_, fun j h3 h4 h5 => ?_⟩
        · rw [hy2, hy3]
          rcases h1 with h1 | ⟨a, b, c, d⟩
          · exact .inl h1
          · exact .inr ⟨a, by omega, c, by rw [hy1 _ (by omega)]; exact d⟩
        · by_cases hj : j = q + 1
          · subst hj; exact hlt'
          · rw [hy1 j hj, hy2]; exact h2 j h3 (by omega) h5
end
end Iv
end Go.Proofs.Yteiopfefmphhaaa

set_option autoImplicit false
set_option linter.unusedVariables false
namespace Go.Proofs.Yteiopfefmphhaaa
open Go.Gv
open Go.RowKit
namespace Iv
/-! the update -/
section
variable {row used : List Nat} {step : Pr} {s : Up}
theorem upd_len (q : Nat) : (updTo row used step s q).u.length = s.u.length ∧ (updTo row used step s q).v.length = s.v.length ∧ (updTo row used step s q).low.length = s.low.length := by
  induction q with
  | zero => exact ⟨rfl, rfl, rfl⟩
  | succ q ih =>
    rw [updTo_succ]
    unfold updOne
    split <;> simpa using ih
theorem upd_far (q : Nat) : ∀ j, q ≤ j → gp (updTo row used step s q).v j = gp s.v j ∧ gp (updTo row used step s q).low j = gp s.low j := by
  induction q with
  | zero => intro j _; exact ⟨rfl, rfl⟩
  | succ q ih =>
    intro j hj
    have h0 := ih j (by omega)
    rw [updTo_succ]
    unfold updOne
    split
    · simp only
      exact ⟨by rw [← h0.1]; unfold gp; simp [List.getElem?_set_ne (show ¬ q = j by omega)], h0.2⟩
    · simp only
      exact ⟨h0.1, by rw [← h0.2]; unfold gp; simp [List.getElem?_set_ne (show ¬ q = j by omega)]⟩
theorem upd_vl (hv : s.v.length = s.low.length) (q : Nat) : q ≤ s.v.length → ∀ j, j < q →
    gp (updTo row used step s q).v j = (if j ∈ used then (gp s.v j).sub step else gp s.v j) ∧ gp (updTo row used step s q).low j = (if j ∈ used then gp s.low j else (gp s.low j).sub step) := by
  induction q with
  | zero => intro _ j h; omega
  | succ q ih =>
    intro hq j hj
    obtain ⟨_, hl1, hl2⟩ := upd_len (row := row) (used := used) (step := step) (s := s) q
    have hfar := upd_far (row := row) (used := used) (step := step) (s := s) q q (Nat.le_refl _)
    have h0 := ih (by omega)
    rw [updTo_succ]
    generalize updTo row used step s q = z at hl1 hl2 hfar h0 ⊢
    have hz1 : q < z.v.length := by omega
    have hz2 : q < z.low.length := by omega
    by_cases hu : q ∈ used
    · have e : updOne row used step z q = { z with u := z.u.set (gn row q) ((gp z.u (gn row q)).add step), v := z.v.set q ((gp z.v q).sub step) } := by unfold updOne; rw [if_pos hu]
      rw [e]
      simp only
      rw [gp_set hz1]
      by_cases hjq : q = j
      · subst hjq; rw [if_pos rfl, if_pos hu, if_pos hu, hfar.1, hfar.2]; exact ⟨rfl, rfl⟩
      · rw [if_neg hjq]; exact h0 j (by omega)
    · have e : updOne row used step z q = { z with low := z.low.set q ((gp z.low q).sub step) } := by unfold updOne; rw [if_neg hu]
      rw [e]
      simp only
      rw [gp_set hz2]
      by_cases hjq : q = j
      · subst hjq; rw [if_pos rfl, if_neg hu, if_neg hu, hfar.1, hfar.2]; exact ⟨rfl, rfl⟩
      · rw [if_neg hjq]; exact h0 j (by omega)
theorem upd_u (hin : ∀ j k, j ∈ used → k ∈ used → gn row j = gn row k → j = k) (hb : ∀ j, gn row j < s.u.length) (q : Nat) : ∀ r,
    ((∃ j, j < q ∧ j ∈ used ∧ gn row j = r) → gp (updTo row used step s q).u r = (gp s.u r).add step) ∧ ((¬ ∃ j, j < q ∧ j ∈ used ∧ gn row j = r) → gp (updTo row used step s q).u r = gp s.u r) := by
  induction q with
  | zero => intro r; exact ⟨fun ⟨j, h, _⟩ => by omega, fun _ => rfl⟩
  | succ q ih =>
    intro r
    have h0 := ih r
    have hlen := upd_len (row := row) (used := used) (step := step) (s := s) q
    rw [updTo_succ]
    unfold updOne
    split
    · rename_i hq
      simp only
      rw [gp_set (by rw [hlen.1]; exact hb q)]
      by_cases hr : gn row q = r
      · rw [if_pos hr]
        refine ⟨fun _ => ?_, fun h => absurd ⟨q, by omega, hq, hr⟩ h⟩
        rw [hr, h0.2]
        rintro ⟨j, h1, h2, h3⟩
        have := hin j q h2 hq (by rw [h3, hr])
        omega
      · rw [if_neg hr]
        refine ⟨fun ⟨j, h1, h2, h3⟩ => h0.1 ⟨j, ?_, h2, h3⟩, fun h => h0.2 fun ⟨j, h1, h2, h3⟩ => h ⟨j, by omega, h2, h3⟩⟩
        rcases Nat.lt_or_ge j q with h4 | h4
        · exact h4
        · have : j = q := by omega
          subst this; exact absurd h3 hr
    · rename_i hq
      simp only
      refine ⟨fun ⟨j, h1, h2, h3⟩ => h0.1 ⟨j, ?_, h2, h3⟩, fun h => h0.2 fun ⟨j, h1, h2, h3⟩ => h ⟨j, by omega, h2, h3⟩⟩
      rcases Nat.lt_or_ge j q with h4 | h4
      · exact h4
      · have : j = q := by omega
        subst this; exact absurd h2 hq
end
end Iv
end Go.Proofs.Yteiopfefmphhaaa

set_option autoImplicit false
set_option linter.unusedVariables false
namespace Go.Proofs.Yteiopfefmphhaaa
open Go.Gv
open Go.RowKit
namespace Iv
/-! prices without a limit -/
def pl (p q : Pr) : Pr := ⟨p.a + q.a, p.b + q.b⟩
def mi (p q : Pr) : Pr := ⟨p.a - q.a, p.b - q.b⟩
theorem pr_ext {p q : Pr} (h1 : p.a = q.a) (h2 : p.b = q.b) : p = q := by cases p; cases q; simp only at h1 h2; rw [h1, h2]
theorem key_pl (p q : Pr) : key (pl p q) = key p + key q := by unfold key pl; simp only; omega
theorem key_mi (p q : Pr) : key (mi p q) = key p - key q := by unfold key mi; simp only; omega
theorem mi_eq {p q r : Pr} (h : p = pl q r) : mi p q = r := by subst h; apply pr_ext <;> simp [mi, pl] <;> omega
theorem add_pl {p q : Pr} {k l : Int} (hp : Sm k p) (hq : Sm l q) (hk : k + l ≤ 9223372036854775807) : p.add q = pl p q := add_eq hp hq hk
theorem sub_mi {p q : Pr} {k l : Int} (hp : Sm k p) (hq : Sm l q) (hk : k + l ≤ 9223372036854775807) : p.sub q = mi p q := sub_eq hp hq hk
theorem Sm.pl {p q : Pr} {k l : Int} (hp : Sm k p) (hq : Sm l q) : Sm (k + l) (pl p q) := by
  obtain ⟨h1, h2, h3, h4⟩ := hp
  obtain ⟨g1, g2, g3, g4⟩ := hq
  exact ⟨by simp only [Iv.pl]; omega, by simp only [Iv.pl]; omega, by simp only [Iv.pl]; omega, by simp only [Iv.pl]; omega⟩
theorem Sm.mi {p q : Pr} {k l : Int} (hp : Sm k p) (hq : Sm l q) : Sm (k + l) (mi p q) := by
  obtain ⟨h1, h2, h3, h4⟩ := hp
  obtain ⟨g1, g2, g3, g4⟩ := hq
  exact ⟨by simp only [Iv.mi]; omega, by simp only [Iv.mi]; omega, by simp only [Iv.mi]; omega, by simp only [Iv.mi]; omega⟩
/-- the bound of a price in the table -/
def CC : Int := 12200000
/-- how much the potentials grow by a row -/
def GG : Int := 260 * CC
/-- what holds of prices, rows and columns, whatever the step -/
structure Hun (cst : Nat → Nat → Pr) (ok : Nat → Prop) (m I : Nat) (row : Nat → Nat) (U V : Nat → Pr) : Prop where
  okm : ∀ j, ok j → 1 ≤ j ∧ j ≤ m
  mat : ∀ j, 1 ≤ j → j ≤ m → row j ≠ 0 → ok j
  inj : ∀ j k, j ≤ m → k ≤ m → row j ≠ 0 → row j = row k → j = k
  rle : ∀ j, row j ≤ I
  sm : ∀ r j, Sm CC (cst r j)
  feas : ∀ r j, 1 ≤ r → r ≤ I → ok j → key (U r) + key (V j) ≤ key (cst r j)
  tight : ∀ j, 1 ≤ j → j ≤ m → row j ≠ 0 → cst (row j) j = pl (U (row j)) (V j)
  neg : ∀ j, ok j → key (V j) ≤ 0
  free : ∀ j, 1 ≤ j → j ≤ m → row j = 0 → V j = zeroP
/-- what holds of the columns that are used, M in their order -/
structure Tre (cst : Nat → Nat → Pr) (ok : Nat → Prop) (m : Nat) (K : Int) (row : Nat → Nat) (U V : Nat → Pr) (way : Nat → Nat) (M : List Nat) : Prop where
  nd : M.Nodup
  hd : M[0]? = some 0
  mem : ∀ q ∈ M, q ≤ m ∧ 1 ≤ row q ∧ (q ≠ 0 → ok q)
  up : ∀ p q : Nat, 1 ≤ p → M[p]? = some q → ∃ p', p' < p ∧ M[p']? = some (way q) ∧ cst (row (way q)) q = pl (U (row (way q))) (V q)
  dif : ∀ (p q : Nat), M[p]? = some q → Sm (2 * CC * (p : Int)) (mi (U (row q)) (U (row 0)))
  smR : Sm (K + 130 * CC) (U (row 0))
  smV : ∀ j, 1 ≤ j → j ≤ m → ¬ j ∈ M → Sm K (V j)
  smU : ∀ r, (¬ ∃ q ∈ M, row q = r) → Sm K (U r)
/-- what holds of the columns that are not, L scanned -/
structure Low (cst : Nat → Nat → Pr) (ok : Nat → Prop) (row : Nat → Nat) (U V : Nat → Pr) (low : Nat → Pr) (way : Nat → Nat) (L M : List Nat) : Prop where
  at_ : ∀ j, ok j → ¬ j ∈ M → way j ∈ L ∧ low j = mi (mi (cst (row (way j)) j) (U (row (way j)))) (V j)
  le : ∀ j, ok j → ¬ j ∈ M → ∀ q ∈ L, key (low j) ≤ key (cst (row q) j) - key (U (row q)) - key (V j)
section
variable {cst : Nat → Nat → Pr} {ok : Nat → Prop} {m I : Nat} {K : Int} {row : Nat → Nat} {U V U' V' : Nat → Pr} {low low' : Nat → Pr} {way : Nat → Nat} {M : List Nat} {x : Nat} {dl : Pr}
/-- a step of the potentials -/
structure Mov (ok : Nat → Prop) (row : Nat → Nat) (U V U' V' low low' : Nat → Pr) (M : List Nat) (dl : Pr) : Prop where
  u1 : ∀ q ∈ M, U' (row q) = pl (U (row q)) dl
  u0 : ∀ r, (¬ ∃ q ∈ M, row q = r) → U' r = U r
  v1 : ∀ q ∈ M, q ≠ 0 → V' q = mi (V q) dl
  v0 : ∀ j, ¬ j ∈ M → V' j = V j
  l0 : ∀ j, ¬ j ∈ M → ok j → low' j = mi (low j) dl
end
end Iv
end Go.Proofs.Yteiopfefmphhaaa

set_option autoImplicit false
set_option linter.unusedVariables false
namespace Go.Proofs.Yteiopfefmphhaaa
open Go.Gv
open Go.RowKit
namespace Iv
section
variable {cst : Nat → Nat → Pr} {ok : Nat → Prop} {m I : Nat} {K : Int} {row : Nat → Nat} {U V U' V' : Nat → Pr} {low low' : Nat → Pr} {way : Nat → Nat} {M : List Nat} {x : Nat} {dl : Pr}
theorem not_row (hH : Hun cst ok m I row U V) (hT : Tre cst ok m K row U V way M) {j : Nat} (hj : j ≤ m) (hr : row j ≠ 0) (hM : ¬ j ∈ M) : ¬ ∃ q ∈ M, row q = row j := by
  rintro ⟨q, hq, e⟩
  have := hH.inj j q hj (hT.mem q hq).1 hr e.symm
  subst this; exact hM hq
theorem dl_nn (hH : Hun cst ok m I row U V) (hT : Tre cst ok m K row U V way M) (hL : Low cst ok row U V low way M M) (hx : ok x) (hxM : ¬ x ∈ M) : 0 ≤ key (low x) := by
  obtain ⟨h1, h2⟩ := hL.at_ x hx hxM
  have h3 := hT.mem _ h1
  have h4 := hH.feas (row (way x)) x h3.2.1 (hH.rle _) hx
  rw [h2, key_mi, key_mi]; omega
theorem hun_step (hH : Hun cst ok m I row U V) (hT : Tre cst ok m K row U V way M) (hL : Low cst ok row U V low way M M) (hx : ok x) (hxM : ¬ x ∈ M) (hmin : ∀ j, ok j → ¬ j ∈ M → key (low x) ≤ key (low j)) (hm : Mov ok row U V U' V' low low' M (low x)) : Hun cst ok m I row U' V' := by
  have hd := dl_nn hH hT hL hx hxM
  have hv : ∀ j, ok j → key (V' j) ≤ key (V j) := fun j hj => by
    have hj1 := hH.okm j hj
    by_cases h : j ∈ M
    · rw [hm.v1 j h (by omega), key_mi]; omega
    · rw [hm.v0 j h]; omega
  refine ⟨hH.okm, hH.mat, hH.inj, hH.rle, hH.sm, fun r j h1 h2 hj => ?_, fun j h1 h2 h3 => ?_, fun j hj => ?_, fun j h1 h2 h3 => ?_⟩
  · have h4 := hH.feas r j h1 h2 hj
    have hj1 := hH.okm j hj
    by_cases hr : ∃ q ∈ M, row q = r
    · obtain ⟨q, hq, rfl⟩ := hr
      rw [hm.u1 q hq, key_pl]
      by_cases h : j ∈ M
      · rw [hm.v1 j h (by omega), key_mi]; omega
      · rw [hm.v0 j h]
        have h5 := hmin j hj h
        have h6 := hL.le j hj h q hq
        omega
    · rw [hm.u0 r hr]
      have := hv j hj
      omega
  · have h4 := hH.tight j h1 h2 h3
    by_cases h : j ∈ M
    · rw [hm.u1 j h, hm.v1 j h (by omega), h4]
      apply pr_ext <;> simp only [pl, mi] <;> omega
    · rw [hm.u0 _ (not_row hH hT h2 h3 h), hm.v0 j h]; exact h4
  · have := hv j hj
    have := hH.neg j hj
    omega
  · have h : ¬ j ∈ M := fun h => by have := (hT.mem j h).2.1; omega
    rw [hm.v0 j h]; exact hH.free j h1 h2 h3
theorem x_tight (hT : Tre cst ok m K row U V way M) (hL : Low cst ok row U V low way M M) (hx : ok x) (hxM : ¬ x ∈ M) (hm : Mov ok row U V U' V' low low' M (low x)) : cst (row (way x)) x = pl (U' (row (way x))) (V' x) := by
  obtain ⟨h1, h2⟩ := hL.at_ x hx hxM
  rw [hm.u1 _ h1, hm.v0 x hxM]
  obtain ⟨c, hc⟩ : ∃ c, low x = c := ⟨_, rfl⟩
  rw [hc] at h2 ⊢
  subst h2
  apply pr_ext <;> simp only [pl, mi] <;> omega
theorem zero_mem (hT : Tre cst ok m K row U V way M) : 0 ∈ M := List.mem_of_getElem? hT.hd
theorem tre_up (hH : Hun cst ok m I row U V) (hT : Tre cst ok m K row U V way M) (hm : Mov ok row U V U' V' low low' M dl) {p q : Nat} (hp : 1 ≤ p) (hq : M[p]? = some q) : ∃ p', p' < p ∧ M[p']? = some (way q) ∧ cst (row (way q)) q = pl (U' (row (way q))) (V' q) := by
  obtain ⟨p', h1, h2, h3⟩ := hT.up p q hp hq
  have hqM := List.mem_of_getElem? hq
  have hwM := List.mem_of_getElem? h2
  have hq0 : q ≠ 0 := fun e => by
    subst e
    have h4 := (List.getElem?_eq_some_iff.1 hq)
    have h5 := (List.getElem?_eq_some_iff.1 hT.hd)
    have := (List.pairwise_iff_getElem.1 hT.nd) 0 p h5.1 h4.1 (by omega)
    rw [h4.2, h5.2] at this
    exact this rfl
  refine ⟨p', h1, h2, ?_⟩
  rw [hm.u1 _ hwM, hm.v1 q hqM hq0, h3]
  apply pr_ext <;> simp only [pl, mi] <;> omega
theorem dif_keep (hT : Tre cst ok m K row U V way M) (hm : Mov ok row U V U' V' low low' M dl) {p q : Nat} (hq : M[p]? = some q) : Sm (2 * CC * (p : Int)) (mi (U' (row q)) (U' (row 0))) := by
  have h1 := hT.dif p q hq
  rw [hm.u1 q (List.mem_of_getElem? hq), hm.u1 0 (zero_mem hT)]
  have e : mi (pl (U (row q)) dl) (pl (U (row 0)) dl) = mi (U (row q)) (U (row 0)) := by apply pr_ext <;> simp only [pl, mi] <;> omega
  rw [e]; exact h1
theorem low_step (hT : Tre cst ok m K row U V way M) (hL : Low cst ok row U V low way M M) (hm : Mov ok row U V U' V' low low' M (low x)) : Low cst ok row U' V' low' way M (M ++ [x]) := by
  have hnm : ∀ {j}, ¬ j ∈ M ++ [x] → ¬ j ∈ M := fun h hj => h (List.mem_append_left _ hj)
  refine ⟨fun j hj hjM => ?_, fun j hj hjM q hq => ?_⟩
  · obtain ⟨h1, h2⟩ := hL.at_ j hj (hnm hjM)
    refine ⟨h1, ?_⟩
    rw [hm.l0 j (hnm hjM) hj, hm.u1 _ h1, hm.v0 j (hnm hjM), h2]
    apply pr_ext <;> simp only [pl, mi] <;> omega
  · have h1 := hL.le j hj (hnm hjM) q hq
    rw [hm.l0 j (hnm hjM) hj, hm.u1 q hq, hm.v0 j (hnm hjM), key_mi, key_pl]; omega
theorem tre_step (hH : Hun cst ok m I row U V) (hT : Tre cst ok m K row U V way M) (hL : Low cst ok row U V low way M M) (hx : ok x) (hxM : ¬ x ∈ M) (hm : Mov ok row U V U' V' low low' M (low x)) (hmm : m ≤ 60) (hrx : row x ≠ 0) : Tre cst ok m K row U' V' way (M ++ [x]) := by
  have hx1 := hH.okm x hx
  obtain ⟨hw, _⟩ := hL.at_ x hx hxM
  have hxt := x_tight hT hL hx hxM hm
  have hlen : M.length ≤ 61 := by
    have := nodup_len (m + 1) M hT.nd (fun q hq => by have := (hT.mem q hq).1; omega)
    omega
  obtain ⟨p', hp'⟩ := List.getElem?_of_mem hw
  have hp'l := (List.getElem?_eq_some_iff.1 hp').1
  have hd' := dif_keep hT hm hp'
  have hVx : V' x = V x := hm.v0 x hxM
  have hsV := hT.smV x hx1.1 hx1.2 hxM
  have hsc := hH.sm (row (way x)) x
  have hsc2 := hH.sm (row x) x
  have hUx : U' (row x) = U (row x) := hm.u0 _ (not_row hH hT hx1.2 hrx hxM)
  have htx := hH.tight x hx1.1 hx1.2 hrx
  have hget : ∀ p q : Nat, (M ++ [x])[p]? = some q → (M[p]? = some q) ∨ (p = M.length ∧ q = x) := fun p q h => by
    rcases Nat.lt_or_ge p M.length with h1 | h1
    · rw [List.getElem?_append_left h1] at h; exact .inl h
    · rw [List.getElem?_append_right h1] at h
      have h2 := (List.getElem?_eq_some_iff.1 h).1
      simp at h2
      have h3 : p = M.length := by omega
      subst h3; simp at h; exact .inr ⟨rfl, h.symm⟩
  refine ⟨?_, ?_, fun q hq => ?_, fun p q hp hq => ?_, fun p q hq => ?_, ?_, fun j h1 h2 h3 => ?_, fun r hr => ?_⟩
  · rw [List.nodup_append]
    exact ⟨hT.nd, by simp, fun b hb c hc e => by rw [List.mem_singleton] at hc; subst hc; subst e; exact hxM hb⟩
  · rw [List.getElem?_append_left (by have := (List.getElem?_eq_some_iff.1 hT.hd).1; exact this)]; exact hT.hd
  · rcases List.mem_append.1 hq with h | h
    · exact hT.mem q h
    · rw [List.mem_singleton] at h; subst h; exact ⟨hx1.2, by omega, fun _ => hx⟩
  · rcases hget p q hq with h | ⟨h1, h2⟩
    · obtain ⟨p2, h4, h5, h6⟩ := tre_up hH hT hm hp h
      exact ⟨p2, h4, by rw [List.getElem?_append_left (by have := (List.getElem?_eq_some_iff.1 h5).1; exact this)]; exact h5, h6⟩
    · subst h2
      exact ⟨p', by omega, by rw [List.getElem?_append_left hp'l]; exact hp', hxt⟩
  · rcases hget p q hq with h | ⟨h1, h2⟩
    · exact dif_keep hT hm h
    · subst h2
      subst h1
      rw [hUx]
      have ha := congrArg Pr.a hxt
      have hb := congrArg Pr.b hxt
      have ha2 := congrArg Pr.a htx
      have hb2 := congrArg Pr.b htx
      rw [hVx] at ha hb
      simp only [pl] at ha hb ha2 hb2
      obtain ⟨s1, s2, s3, s4⟩ := hsc
      obtain ⟨r1, r2, r3, r4⟩ := hsc2
      obtain ⟨d1, d2, d3, d4⟩ := hd'
      simp only [mi] at d1 d2 d3 d4
      unfold CC at *
      refine ⟨?_, ?_, ?_, ?_⟩ <;> simp only [mi] <;> omega
  · have ha := congrArg Pr.a hxt
    have hb := congrArg Pr.b hxt
    rw [hVx] at ha hb
    simp only [pl] at ha hb
    obtain ⟨s1, s2, s3, s4⟩ := hsc
    obtain ⟨r1, r2, r3, r4⟩ := hsV
    obtain ⟨d1, d2, d3, d4⟩ := hd'
    simp only [mi] at d1 d2 d3 d4
    unfold CC at *
    refine ⟨?_, ?_, ?_, ?_⟩ <;> omega
  · have h4 : ¬ j ∈ M := fun h => h3 (List.mem_append_left _ h)
    rw [hm.v0 j h4]; exact hT.smV j h1 h2 h4
  · have h4 : ¬ ∃ q ∈ M, row q = r := fun ⟨q, h, e⟩ => hr ⟨q, List.mem_append_left _ h, e⟩
    rw [hm.u0 r h4]; exact hT.smU r h4
end
end Iv
end Go.Proofs.Yteiopfefmphhaaa

set_option autoImplicit false
set_option linter.unusedVariables false
namespace Go.Proofs.Yteiopfefmphhaaa
open Go.Gv
open Go.RowKit
namespace Iv
section
variable {cst : Nat → Nat → Pr} {ok : Nat → Prop} {m I : Nat} {K : Int} {row : Nat → Nat} {U V : Nat → Pr} {low low' : Nat → Pr} {way way' : Nat → Nat} {L M : List Nat} {x a : Nat}
theorem tre_len (hT : Tre cst ok m K row U V way M) : M.length ≤ m + 1 := nodup_len (m + 1) M hT.nd (fun q hq => by have := (hT.mem q hq).1; omega)
theorem smUM (hT : Tre cst ok m K row U V way M) (hmm : m ≤ 60) {q : Nat} (hq : q ∈ M) : Sm (K + 250 * CC) (U (row q)) := by
  have hl := tre_len hT
  obtain ⟨p, hp⟩ := List.getElem?_of_mem hq
  have hpl := (List.getElem?_eq_some_iff.1 hp).1
  obtain ⟨d1, d2, d3, d4⟩ := hT.dif p q hp
  obtain ⟨r1, r2, r3, r4⟩ := hT.smR
  simp only [mi] at d1 d2 d3 d4
  unfold CC at *
  refine ⟨?_, ?_, ?_, ?_⟩ <;> omega
theorem smVM (hH : Hun cst ok m I row U V) (hT : Tre cst ok m K row U V way M) (hmm : m ≤ 60) {q : Nat} (hq : q ∈ M) (h0 : q ≠ 0) : Sm (K + 251 * CC) (V q) := by
  have h1 := hT.mem q hq
  have h2 := hH.tight q (by omega) h1.1 (by omega)
  have h3 := smUM hT hmm hq
  have h4 := hH.sm (row q) q
  have ha := congrArg Pr.a h2
  have hb := congrArg Pr.b h2
  simp only [pl] at ha hb
  obtain ⟨s1, s2, s3, s4⟩ := h3
  obtain ⟨r1, r2, r3, r4⟩ := h4
  unfold CC at *
  refine ⟨?_, ?_, ?_, ?_⟩ <;> omega
theorem smRed (hH : Hun cst ok m I row U V) (hT : Tre cst ok m K row U V way M) (hmm : m ≤ 60) {q j : Nat} (hq : q ∈ M) (hj : ok j) (hjM : ¬ j ∈ M) : Sm (2 * K + 251 * CC) (mi (mi (cst (row q) j) (U (row q))) (V j)) := by
  have h1 := hH.okm j hj
  obtain ⟨a1, a2, a3, a4⟩ := smUM hT hmm hq
  obtain ⟨b1, b2, b3, b4⟩ := hH.sm (row q) j
  obtain ⟨c1, c2, c3, c4⟩ := hT.smV j h1.1 h1.2 hjM
  unfold CC at *
  refine ⟨?_, ?_, ?_, ?_⟩ <;> simp only [mi] <;> omega
/-- the scan of the rows of the last column -/
theorem low_scan (hH : Hun cst ok m I row U V) (hT : Tre cst ok m K row U V way M) (hmm : m ≤ 60) (hK : K ≤ 100000000000) (hM : M = L ++ [a])
    (hold : (L = [] ∧ ∀ j, ok j → low j = big1) ∨ Low cst ok row U V low way L M)
    (hs : ∀ j, ok j → ¬ j ∈ M → ((mi (mi (cst (row a) j) (U (row a))) (V j)).lt (low j) = true ∧ low' j = mi (mi (cst (row a) j) (U (row a))) (V j) ∧ way' j = a) ∨ ((mi (mi (cst (row a) j) (U (row a))) (V j)).lt (low j) = false ∧ low' j = low j ∧ way' j = way j)) :
    Low cst ok row U V low' way' M M := by
  have haM : a ∈ M := by rw [hM]; simp
  have hkey : ∀ q j, q ∈ M → ok j → ¬ j ∈ M → key (mi (mi (cst (row q) j) (U (row q))) (V j)) = key (cst (row q) j) - key (U (row q)) - key (V j) := fun q j _ _ _ => by rw [key_mi, key_mi]
  have hb : ∀ q j, q ∈ M → ok j → ¬ j ∈ M → -big ≤ (mi (mi (cst (row q) j) (U (row q))) (V j)).b ∧ (mi (mi (cst (row q) j) (U (row q))) (V j)).b ≤ big := fun q j hq hj hjM => by
    obtain ⟨_, _, h3, h4⟩ := smRed hH hT hmm hq hj hjM
    unfold CC at h3 h4; unfold big; omega
  have hlow : ∀ j, ok j → ¬ j ∈ M → (-big ≤ (low j).b ∧ (low j).b ≤ big) := fun j hj hjM => by
    rcases hold with ⟨_, h⟩ | h
    · rw [h j hj]; unfold big1 big; simp
    · obtain ⟨h1, h2⟩ := h.at_ j hj hjM
      rw [h2]; exact hb _ j (by rw [hM]; exact List.mem_append_left _ h1) hj hjM
  refine ⟨fun j hj hjM => ?_, fun j hj hjM q hq => ?_⟩
  · rcases hs j hj hjM with ⟨h1, h2, h3⟩ | ⟨h1, h2, h3⟩
    · rw [h3]; exact ⟨haM, h2⟩
    · rw [h3]
      rcases hold with ⟨_, h⟩ | h
      · exfalso
        rw [h j hj, ← Bool.not_eq_true, lt_iff] at h1
        obtain ⟨_, h5, _, _⟩ := smRed hH hT hmm haM hj hjM
        unfold CC at h5; unfold big1 at h1; simp only at h1; omega
      · obtain ⟨h4, h5⟩ := h.at_ j hj hjM
        exact ⟨by rw [hM]; exact List.mem_append_left _ h4, by rw [h2]; exact h5⟩
  · rw [← hkey q j hq hj hjM]
    rw [hM] at hq
    rcases hs j hj hjM with ⟨h1, h2, h3⟩ | ⟨h1, h2, h3⟩
    · rw [h2]
      rw [lt_key (hb a j haM hj hjM) (hlow j hj hjM)] at h1
      rcases List.mem_append.1 hq with h | h
      · rcases hold with ⟨h0, _⟩ | h0
        · subst h0; cases h
        · have h4 := h0.le j hj hjM q h
          have h5 := hkey q j (by rw [hM]; exact List.mem_append_left _ h) hj hjM
          omega
      · rw [List.mem_singleton] at h; subst h; omega
    · rw [h2]
      rw [← Bool.not_eq_true, lt_key (hb a j haM hj hjM) (hlow j hj hjM)] at h1
      rcases List.mem_append.1 hq with h | h
      · rcases hold with ⟨h0, _⟩ | h0
        · subst h0; cases h
        · have h4 := h0.le j hj hjM q h
          have h5 := hkey q j (by rw [hM]; exact List.mem_append_left _ h) hj hjM
          omega
      · rw [List.mem_singleton] at h; subst h; omega
theorem tre_way (hT : Tre cst ok m K row U V way M) (h : ∀ q ∈ M, way' q = way q) : Tre cst ok m K row U V way' M :=
  ⟨hT.nd, hT.hd, hT.mem, fun p q hp hq => by rw [h q (List.mem_of_getElem? hq)]; exact hT.up p q hp hq, hT.dif, hT.smR, hT.smV, hT.smU⟩
end
end Iv
end Go.Proofs.Yteiopfefmphhaaa

set_option autoImplicit false
set_option linter.unusedVariables false
namespace Go.Proofs.Yteiopfefmphhaaa
open Go.Gv
open Go.RowKit
namespace Iv
def cstT (t : List (List Pr)) (r j : Nat) : Pr := tbl t (r - 1) (j - 1)
def okT (taken : List Bool) (m j : Nat) : Prop := 1 ≤ j ∧ j ≤ m ∧ taken.getD (j - 1) false = false
structure InnI (t : List (List Pr)) (taken : List Bool) (m n I : Nat) (K : Int) (row : List Nat) (s : Inn) : Prop where
  lu : s.u.length = n + 1
  lv : s.v.length = m + 1
  ll : s.low.length = m + 1
  lw : s.way.length = m + 1
  hun : Hun (cstT t) (okT taken m) m I (gn row) (gp s.u) (gp s.v)
  tre : Tre (cstT t) (okT taken m) m K (gn row) (gp s.u) (gp s.v) (gn s.way) (s.used ++ [s.at_])
  low : (s.used = [] ∧ ∀ j, okT taken m j → gp s.low j = big1) ∨ Low (cstT t) (okT taken m) (gn row) (gp s.u) (gp s.v) (gp s.low) (gn s.way) s.used (s.used ++ [s.at_])
/-- behind a step: the column s.at_ is reached, not yet used -/
structure Fin (t : List (List Pr)) (taken : List Bool) (m n I : Nat) (K : Int) (row : List Nat) (s : Inn) : Prop where
  lu : s.u.length = n + 1
  lv : s.v.length = m + 1
  ll : s.low.length = m + 1
  lw : s.way.length = m + 1
  hun : Hun (cstT t) (okT taken m) m I (gn row) (gp s.u) (gp s.v)
  ok : okT taken m s.at_
  nd : (s.used ++ [s.at_]).Nodup
  hd : s.used[0]? = some 0
  mem : ∀ q ∈ s.used, q ≤ m ∧ 1 ≤ gn row q ∧ (q ≠ 0 → okT taken m q)
  up : ∀ p q : Nat, 1 ≤ p → (s.used ++ [s.at_])[p]? = some q → ∃ p', p' < p ∧ (s.used ++ [s.at_])[p']? = some (gn s.way q) ∧ cstT t (gn row (gn s.way q)) q = pl (gp s.u (gn row (gn s.way q))) (gp s.v q)
  smU : ∀ r, Sm (K + GG) (gp s.u r)
  smV : ∀ j, 1 ≤ j → j ≤ m → Sm (K + GG) (gp s.v j)
theorem skip_ok {taken : List Bool} {m : Nat} {M : List Nat} {j : Nat} (h1 : 1 ≤ j) (h2 : j ≤ m) : skipJ taken M j = false ↔ okT taken m j ∧ ¬ j ∈ M := by
  unfold skipJ okT
  rw [Bool.or_eq_false_iff, decide_eq_false_iff_not]
  exact ⟨fun ⟨a, b⟩ => ⟨⟨h1, h2, b⟩, a⟩, fun ⟨⟨_, _, b⟩, a⟩ => ⟨a, b⟩⟩
section
variable {t : List (List Pr)} {taken : List Bool} {m n I : Nat} {K : Int} {row : List Nat} {s : Inn}
theorem red_eq (h : InnI t taken m n I K row s) (hmm : m ≤ 60) (hK : K ≤ 100000000000) (hK0 : 0 ≤ K) {j : Nat} (hj : okT taken m j) (hjM : ¬ j ∈ s.used ++ [s.at_]) : redP t s.u s.v row s.at_ j = mi (mi (cstT t (gn row s.at_) j) (gp s.u (gn row s.at_))) (gp s.v j) := by
  have ha : s.at_ ∈ s.used ++ [s.at_] := by simp
  have s1 := h.hun.sm (gn row s.at_) j
  have s2 := smUM h.tre hmm ha
  have s3 := h.tre.smV j hj.1 hj.2.1 hjM
  unfold redP
  rw [show tbl t (gn row s.at_ - 1) (j - 1) = cstT t (gn row s.at_) j from rfl]
  have e1 := sub_mi s1 s2 (by unfold CC; omega)
  rw [e1, sub_mi (s1.mi s2) s3 (by unfold CC; omega)]
theorem inn_step (h : InnI t taken m n I K row s) (hmm : m ≤ 60) (hK : K ≤ 100000000000) (hK0 : 0 ≤ K) (hI : I ≤ n) (hfree : ∃ j, okT taken m j ∧ gn row j = 0) :
    Fin t taken m n I K row (innerStep t taken m row s) ∧ (innerStep t taken m row s).used = s.used ++ [s.at_] ∧ (∀ r, I < r → gp (innerStep t taken m row s).u r = gp s.u r) ∧ (gn row (innerStep t taken m row s).at_ ≠ 0 → InnI t taken m n I K row (innerStep t taken m row s)) := by
  have hH := h.hun
  have hT := h.tre
  obtain ⟨M, hM⟩ : ∃ M, s.used ++ [s.at_] = M := ⟨_, rfl⟩
  obtain ⟨sc, hsc⟩ : ∃ sc, scanTo t taken s.u s.v row M s.at_ ⟨s.low, s.way, big2, 0⟩ m = sc := ⟨_, rfl⟩
  obtain ⟨up, hup⟩ : ∃ up, updTo row M sc.step ⟨s.u, s.v, sc.low⟩ (m + 1) = up := ⟨_, rfl⟩
  have hst : innerStep t taken m row s = ⟨up.u, up.v, up.low, sc.way, M, sc.next⟩ := by unfold innerStep; rw [hM]; simp only [hsc, hup]
  have hred := fun {j : Nat} => @red_eq t taken m n I K row s h hmm hK hK0 j
  have hlow := h.low
  rw [hM] at hT hlow hred
  rw [hst]
  -- the scan
  have g1 := scan_len (t := t) (taken := taken) (u := s.u) (v := s.v) (row := row) (used := M) (at_ := s.at_) (s := ⟨s.low, s.way, big2, 0⟩) m
  have g2 := scan_skip (t := t) (taken := taken) (u := s.u) (v := s.v) (row := row) (used := M) (at_ := s.at_) (s := ⟨s.low, s.way, big2, 0⟩) m
  have g3 := scan_do (t := t) (taken := taken) (u := s.u) (v := s.v) (row := row) (used := M) (at_ := s.at_) (s := ⟨s.low, s.way, big2, 0⟩) (by simp only [h.ll, h.lw]) m (by simp only [h.ll]; omega)
  have g4 := scan_next (t := t) (taken := taken) (u := s.u) (v := s.v) (row := row) (used := M) (at_ := s.at_) (s := ⟨s.low, s.way, big2, 0⟩) (by simp only [h.ll, h.lw]) rfl m (by simp only [h.ll]; omega)
  rw [hsc] at g1 g2 g3 g4
  simp only at g1 g2 g3 g4
  have hway : ∀ q ∈ M, gn sc.way q = gn s.way q := fun q hq => (g2 q (.inr (.inr (by unfold skipJ; rw [decide_eq_true hq]; rfl)))).2
  have hT2 := tre_way hT hway
  have hL2 : Low (cstT t) (okT taken m) (gn row) (gp s.u) (gp s.v) (gp sc.low) (gn sc.way) M M := by
    refine low_scan (L := s.used) (a := s.at_) (low := gp s.low) (way := gn s.way) hH hT hmm hK hM.symm hlow fun j hj hjM => ?_
    have h3 := g3 j hj.1 hj.2.1 ((skip_ok hj.1 hj.2.1).2 ⟨hj, hjM⟩)
    rw [hred hj hjM] at h3
    exact h3
  -- the next column
  obtain ⟨jf, hjf, hjf0⟩ := hfree
  have hjfM : ¬ jf ∈ M := fun hq => by have := (hT.mem jf hq).2.1; omega
  have hbl : ∀ j, okT taken m j → ¬ j ∈ M → Sm (2 * K + 251 * CC) (gp sc.low j) := fun j hj hjM => by
    obtain ⟨h1, h2⟩ := hL2.at_ j hj hjM
    rw [h2]; exact smRed hH hT hmm h1 hj hjM
  have hnx : okT taken m sc.next ∧ ¬ sc.next ∈ M ∧ sc.step = gp sc.low sc.next := by
    rcases g4.1 with ⟨h1, h2⟩ | ⟨h1, h2, h3, h4⟩
    · exfalso
      have h5 := g4.2 jf hjf.1 hjf.2.1 ((skip_ok hjf.1 hjf.2.1).2 ⟨hjf, hjfM⟩)
      rw [h2, ← Bool.not_eq_true, lt_iff] at h5
      obtain ⟨_, b2, _, _⟩ := hbl jf hjf hjfM
      unfold CC at b2; unfold big2 at h5; simp only at h5; omega
    · have h5 := (skip_ok h1 h2).1 h3
      exact ⟨h5.1, h5.2, h4⟩
  obtain ⟨hxo, hxM, hstep⟩ := hnx
  have hmin : ∀ j, okT taken m j → ¬ j ∈ M → key (gp sc.low sc.next) ≤ key (gp sc.low j) := fun j hj hjM => by
    have h5 := g4.2 j hj.1 hj.2.1 ((skip_ok hj.1 hj.2.1).2 ⟨hj, hjM⟩)
    rw [hstep] at h5
    obtain ⟨_, _, b3, b4⟩ := hbl j hj hjM
    obtain ⟨_, _, c3, c4⟩ := hbl _ hxo hxM
    rw [← Bool.not_eq_true, lt_key (by unfold CC at b3 b4; unfold big; omega) (by unfold CC at c3 c4; unfold big; omega)] at h5
    omega
  have hsd := hbl _ hxo hxM
  -- the update
  have u1 := upd_len (row := row) (used := M) (step := sc.step) (s := ⟨s.u, s.v, sc.low⟩) (m + 1)
  have u2 := upd_vl (row := row) (used := M) (step := sc.step) (s := ⟨s.u, s.v, sc.low⟩) (by simp only [h.lv, g1.1, h.ll]) (m + 1) (by simp only [h.lv]; omega)
  have u3 := upd_u (row := row) (used := M) (step := sc.step) (s := ⟨s.u, s.v, sc.low⟩) (fun j k hj hk e => hH.inj j k (hT.mem j hj).1 (hT.mem k hk).1 (by have := (hT.mem j hj).2.1; omega) e) (fun j => by have := hH.rle j; simp only [h.lu]; omega) (m + 1)
  have u4 := upd_far (row := row) (used := M) (step := sc.step) (s := ⟨s.u, s.v, sc.low⟩) (m + 1)
  rw [hup] at u1 u2 u3 u4
  simp only at u1 u2 u3 u4
  rw [hstep] at u2 u3
  have hmv : Mov (okT taken m) (gn row) (gp s.u) (gp s.v) (gp up.u) (gp up.v) (gp sc.low) (gp up.low) M (gp sc.low sc.next) := by
    refine ⟨fun q hq => ?_, fun r hr => ?_, fun q hq h0 => ?_, fun j hj => ?_, fun j hj hok => ?_⟩
    · rw [(u3 (gn row q)).1 ⟨q, by have := (hT.mem q hq).1; omega, hq, rfl⟩]
      exact add_pl (smUM hT hmm hq) hsd (by unfold CC; omega)
    · exact (u3 r).2 fun ⟨j, _, h1, h2⟩ => hr ⟨j, h1, h2⟩
    · rw [(u2 q (by have := (hT.mem q hq).1; omega)).1, if_pos hq]
      exact sub_mi (smVM hH hT hmm hq h0) hsd (by unfold CC; omega)
    · rcases Nat.lt_or_ge j (m + 1) with h1 | h1
      · rw [(u2 j h1).1, if_neg hj]
      · exact (u4 j h1).1
    · rw [(u2 j (by have := hok.2.1; omega)).2, if_neg hj]
      exact sub_mi (hbl j hok hj) hsd (by unfold CC; omega)
  have hH' := hun_step hH hT2 hL2 hxo hxM hmin hmv
  have hnd : (M ++ [sc.next]).Nodup := nd_snoc hT.nd hxM
  have hxt := x_tight hT2 hL2 hxo hxM hmv
  have hup2 : ∀ p q : Nat, 1 ≤ p → (M ++ [sc.next])[p]? = some q → ∃ p', p' < p ∧ (M ++ [sc.next])[p']? = some (gn sc.way q) ∧ cstT t (gn row (gn sc.way q)) q = pl (gp up.u (gn row (gn sc.way q))) (gp up.v q) := fun p q hp hq => by
    rcases Nat.lt_or_ge p M.length with h1 | h1
    · rw [List.getElem?_append_left h1] at hq
      obtain ⟨p2, h4, h5, h6⟩ := tre_up hH hT2 hmv hp hq
      exact ⟨p2, h4, by rw [List.getElem?_append_left (by have := (List.getElem?_eq_some_iff.1 h5).1; exact this)]; exact h5, h6⟩
    · rw [List.getElem?_append_right h1] at hq
      have h2 := (List.getElem?_eq_some_iff.1 hq).1
      simp at h2
      have h3 : p = M.length := by omega
      subst h3
      simp at hq
      subst hq
      obtain ⟨hw, _⟩ := hL2.at_ sc.next hxo hxM
      obtain ⟨p', hp'⟩ := List.getElem?_of_mem hw
      have hp'l := (List.getElem?_eq_some_iff.1 hp').1
      exact ⟨p', hp'l, by rw [List.getElem?_append_left hp'l]; exact hp', hxt⟩
  have hgg : GG = 260 * CC := rfl
  -- the bounds
  have hR : Sm (K + 130 * CC) (gp up.u (gn row 0)) := by
    obtain ⟨hw, _⟩ := hL2.at_ sc.next hxo hxM
    obtain ⟨p', hp'⟩ := List.getElem?_of_mem hw
    have hp'l := (List.getElem?_eq_some_iff.1 hp').1
    have hlen := tre_len hT
    have hVx : gp up.v sc.next = gp s.v sc.next := hmv.v0 _ hxM
    have ha := congrArg Pr.a hxt
    have hb := congrArg Pr.b hxt
    rw [hVx] at ha hb
    simp only [pl] at ha hb
    obtain ⟨s1, s2, s3, s4⟩ := hH.sm (gn row (gn sc.way sc.next)) sc.next
    obtain ⟨r1, r2, r3, r4⟩ := hT.smV sc.next hxo.1 hxo.2.1 hxM
    obtain ⟨d1, d2, d3, d4⟩ := dif_keep hT2 hmv hp'
    simp only [mi] at d1 d2 d3 d4
    unfold CC at *
    refine ⟨?_, ?_, ?_, ?_⟩ <;> omega
  have hUM : ∀ q ∈ M, Sm (K + 251 * CC) (gp up.u (gn row q)) := fun q hq => by
    obtain ⟨p, hp⟩ := List.getElem?_of_mem hq
    have hpl := (List.getElem?_eq_some_iff.1 hp).1
    have hlen := tre_len hT
    obtain ⟨d1, d2, d3, d4⟩ := dif_keep hT2 hmv hp
    obtain ⟨r1, r2, r3, r4⟩ := hR
    simp only [mi] at d1 d2 d3 d4
    unfold CC at *
    refine ⟨?_, ?_, ?_, ?_⟩ <;> omega
  have hUall : ∀ r, Sm (K + GG) (gp up.u r) := fun r => by
    by_cases hr : ∃ q ∈ M, gn row q = r
    · obtain ⟨q, hq, rfl⟩ := hr
      exact (hUM q hq).mono (by unfold GG CC; omega)
    · rw [hmv.u0 r hr]; exact (hT.smU r hr).mono (by unfold GG CC; omega)
  have hVall : ∀ j, 1 ≤ j → j ≤ m → Sm (K + GG) (gp up.v j) := fun j h1 h2 => by
    by_cases hj : j ∈ M
    · have h3 := (hT.mem j hj).2.1
      have h4 := hH'.tight j h1 h2 (by omega)
      have h5 := hUM j hj
      have h6 := hH.sm (gn row j) j
      have ha := congrArg Pr.a h4
      have hb := congrArg Pr.b h4
      simp only [pl] at ha hb
      obtain ⟨s1, s2, s3, s4⟩ := h5
      obtain ⟨r1, r2, r3, r4⟩ := h6
      unfold GG CC at *
      refine ⟨?_, ?_, ?_, ?_⟩ <;> omega
    · rw [hmv.v0 j hj]; exact (hT.smV j h1 h2 hj).mono (by unfold GG CC; omega)
  have hM0 : M[0]? = some 0 := hT.hd
  have l1 : up.u.length = n + 1 := by rw [u1.1, h.lu]
  have l2 : up.v.length = m + 1 := by rw [u1.2.1, h.lv]
  have l3 : up.low.length = m + 1 := by rw [u1.2.2, g1.1, h.ll]
  have l4 : sc.way.length = m + 1 := by rw [g1.2, h.lw]
  refine ⟨⟨l1, l2, l3, l4, hH', hxo, hnd, hM0, hT.mem, hup2, hUall, hVall⟩, hM.symm, fun r hr => ?_, fun hrx => ?_⟩
  · exact hmv.u0 r fun ⟨q, hq, e⟩ => by have := hH.rle q; omega
  · exact ⟨l1, l2, l3, l4, hH', tre_step hH hT2 hL2 hxo hxM hmv hmm hrx, .inr (low_step hT2 hL2 hmv)⟩
end
end Iv
end Go.Proofs.Yteiopfefmphhaaa

set_option autoImplicit false
set_option linter.unusedVariables false
namespace Go.Proofs.Yteiopfefmphhaaa
open Go.Gv
open Go.RowKit
namespace Iv
section
variable {t : List (List Pr)} {taken : List Bool} {m n I : Nat} {K : Int} {row : List Nat}
theorem innerGo_ok (hmm : m ≤ 60) (hK : K ≤ 100000000000) (hK0 : 0 ≤ K) (hI : I ≤ n) (hfree : ∃ j, okT taken m j ∧ gn row j = 0) : ∀ (f : Nat) (s : Inn), InnI t taken m n I K row s → m + 1 ≤ f + s.used.length → ∃ x, innerGo t taken m row f s = some x ∧ Fin t taken m n I K row x ∧ gn row x.at_ = 0 ∧ ∀ r, I < r → gp x.u r = gp s.u r
  | 0, s, h, hf => by
    have := tre_len h.tre
    rw [List.length_append, List.length_singleton] at this
    omega
  | f + 1, s, h, hf => by
    obtain ⟨h1, h2, h3, h4⟩ := inn_step h hmm hK hK0 hI hfree
    rw [innerGo, if_neg (by have := h1.ok.1; omega)]
    by_cases hr : gn row (innerStep t taken m row s).at_ = 0
    · rw [if_pos hr]; exact ⟨_, rfl, h1, hr, h3⟩
    · rw [if_neg hr]
      obtain ⟨x, g1, g2, g3, g4⟩ := innerGo_ok hmm hK hK0 hI hfree f _ (h4 hr) (by rw [h2, List.length_append, List.length_singleton]; omega)
      exact ⟨x, g1, g2, g3, fun r hr2 => by rw [g4 r hr2, h3 r hr2]⟩
/-- while the path is flipped back: a is the column whose row is to come -/
structure Flp (t : List (List Pr)) (taken : List Bool) (m I : Nat) (row0 : List Nat) (U V : Nat → Pr) (P : List Nat) (r : List Nat) (a p : Nat) : Prop where
  len : r.length = m + 1
  at_ : P[p]? = some a
  ag : ∀ k q : Nat, k ≤ p → P[k]? = some q → gn r q = gn row0 q
  inj : ∀ j k, j ≤ m → k ≤ m → j ≠ a → k ≠ a → gn r j ≠ 0 → gn r j = gn r k → j = k
  tight : ∀ j, 1 ≤ j → j ≤ m → j ≠ a → gn r j ≠ 0 → cstT t (gn r j) j = pl (U (gn r j)) (V j)
  cov : ∀ v, 1 ≤ v → v ≤ I → ∃ j, j ≤ m ∧ j ≠ a ∧ gn r j = v
  ok : ∀ j, 1 ≤ j → j ≤ m → j ≠ a → gn r j ≠ 0 → okT taken m j
  le : ∀ j, gn r j ≤ I
  zer : ∀ j, 1 ≤ j → j ≤ m → j ≠ a → gn r j = 0 → V j = zeroP
theorem gn_big {xs : List Nat} {k : Nat} (h : xs.length ≤ k) : gn xs k = 0 := by unfold gn; simp [h]
theorem flip_ok {x : Inn} (hx : Fin t taken m n I K row x) (hrl : row.length = m + 1) : ∀ (p f : Nat) (r : List Nat) (a : Nat), Flp t taken m I row (gp x.u) (gp x.v) (x.used ++ [x.at_]) r a p → p ≤ f → ∃ r', flipGo x.way f r a = some r' ∧ ∃ p', Flp t taken m I row (gp x.u) (gp x.v) (x.used ++ [x.at_]) r' 0 p' := by
  intro p
  induction p using Nat.strongRecOn with
  | ind p ih =>
    intro f r a h hf
    obtain ⟨P, hP⟩ : ∃ P, x.used ++ [x.at_] = P := ⟨_, rfl⟩
    have hP0 : P[0]? = some 0 := by
      rw [← hP, List.getElem?_append_left (by have := (List.getElem?_eq_some_iff.1 hx.hd).1; exact this)]; exact hx.hd
    have hnd := hx.nd
    have hup := hx.up
    rw [hP] at hnd hup h ih ⊢
    have hinj : ∀ i j q : Nat, P[i]? = some q → P[j]? = some q → i = j := fun i j q h1 h2 => by
      have e1 := List.getElem?_eq_some_iff.1 h1
      have e2 := List.getElem?_eq_some_iff.1 h2
      rcases Nat.lt_trichotomy i j with h3 | h3 | h3
      · have := (List.pairwise_iff_getElem.1 hnd) i j e1.1 e2.1 h3; rw [e1.2, e2.2] at this; exact absurd rfl this
      · exact h3
      · have := (List.pairwise_iff_getElem.1 hnd) j i e2.1 e1.1 h3; rw [e1.2, e2.2] at this; exact absurd rfl this
    by_cases ha : a = 0
    · subst ha
      exact ⟨r, by cases f <;> (unfold flipGo; rw [if_pos rfl]), p, h⟩
    · have hp1 : 1 ≤ p := by
        rcases Nat.eq_zero_or_pos p with h0 | h0
        · subst h0; have := h.at_; rw [hP0] at this; exact absurd (Option.some.inj this).symm ha
        · exact h0
      obtain ⟨p', h1, h2, h3⟩ := hup p a hp1 h.at_
      have hpl := (List.getElem?_eq_some_iff.1 h.at_).1
      have hlenP : P.length = x.used.length + 1 := by rw [← hP]; simp
      have hwu : gn x.way a ∈ x.used := by
        have h5 : x.used[p']? = some (gn x.way a) := by
          rw [← hP, List.getElem?_append_left (by omega)] at h2; exact h2
        exact List.mem_of_getElem? h5
      have hwm := hx.mem _ hwu
      have hwr : gn r (gn x.way a) = gn row (gn x.way a) := h.ag p' _ (by omega) h2
      have hwa : gn x.way a ≠ a := fun e => by
        rw [e] at h2
        have := hinj p' p a h2 h.at_
        omega
      have hao : okT taken m a := by
        by_cases hp : p = x.used.length
        · have h5 := h.at_
          rw [← hP, hp, List.getElem?_append_right (Nat.le_refl _)] at h5
          simp at h5
          rw [← h5]; exact hx.ok
        · have h5 : x.used[p]? = some a := by
            have h6 := h.at_
            rw [← hP, List.getElem?_append_left (by omega)] at h6; exact h6
          exact (hx.mem a (List.mem_of_getElem? h5)).2.2 ha
      obtain ⟨f', rfl⟩ : ∃ f', f = f' + 1 := ⟨f - 1, by omega⟩
      rw [flipGo, if_neg ha]
      have hset : ∀ k, gn (r.set a (gn r (gn x.way a))) k = if a = k then gn r (gn x.way a) else gn r k := fun k => gn_set (by rw [h.len]; have := hao.2.1; omega)
      refine ih p' h1 f' _ (gn x.way a) ?_ (by omega)
      refine ⟨by simp [h.len], h2, fun k q hk hq => ?_, fun j k hj hk hja hka h0 e => ?_, fun j j1 j2 hja h0 => ?_, fun v v1 v2 => ?_, fun j j1 j2 hja h0 => ?_, fun j => ?_, fun j j1 j2 hja h0 => ?_⟩
      · rw [hset, if_neg (fun e => by subst e; have := hinj k p _ hq h.at_; omega)]
        exact h.ag k q (by omega) hq
      · rw [hset] at h0 e
        rw [hset k] at e
        by_cases hj2 : a = j
        · rw [if_pos hj2] at h0 e
          by_cases hk2 : a = k
          · omega
          · rw [if_neg hk2] at e
            have := h.inj (gn x.way a) k hwm.1 hk hwa (fun e => hk2 e.symm) h0 e
            exact absurd this.symm hka
        · rw [if_neg hj2] at h0 e
          by_cases hk2 : a = k
          · rw [if_pos hk2] at e
            have := h.inj j (gn x.way a) hj hwm.1 (fun e => hj2 e.symm) hwa h0 e
            exact absurd this hja
          · rw [if_neg hk2] at e
            exact h.inj j k hj hk (fun e => hj2 e.symm) (fun e => hk2 e.symm) h0 e
      · rw [hset] at h0 ⊢
        by_cases hj2 : a = j
        · subst hj2
          rw [if_pos rfl, hwr]; exact h3
        · rw [if_neg hj2] at h0 ⊢
          exact h.tight j j1 j2 (fun e => hj2 e.symm) h0
      · obtain ⟨j, g1, g2, g3⟩ := h.cov v v1 v2
        by_cases hj : j = gn x.way a
        · exact ⟨a, hao.2.1, fun e => hwa e.symm, by rw [hset, if_pos rfl, ← hj]; exact g3⟩
        · exact ⟨j, g1, hj, by rw [hset, if_neg (fun e => g2 e.symm)]; exact g3⟩
      · rw [hset] at h0
        by_cases hj2 : a = j
        · subst hj2; exact hao
        · rw [if_neg hj2] at h0
          exact h.ok j j1 j2 (fun e => hj2 e.symm) h0
      · rw [hset]
        split
        · exact h.le _
        · exact h.le j
      · rw [hset] at h0
        by_cases hj2 : a = j
        · rw [if_pos hj2, hwr] at h0; omega
        · rw [if_neg hj2] at h0
          exact h.zer j j1 j2 (fun e => hj2 e.symm) h0
end
end Iv
end Go.Proofs.Yteiopfefmphhaaa

set_option autoImplicit false
set_option linter.unusedVariables false
namespace Go.Proofs.Yteiopfefmphhaaa
open Go.Gv
open Go.RowKit
namespace Iv
/-- what is asked of a table -/
structure TabOk (t : List (List Pr)) (taken : List Bool) (m n : Nat) : Prop where
  sm : ∀ r j, Sm CC (cstT t r j)
  nn : ∀ r j, 0 ≤ key (cstT t r j)
  m60 : m ≤ 60
  free : ∃ O : List Nat, O.Nodup ∧ (∀ j ∈ O, okT taken m j) ∧ n ≤ O.length
/-- the rows 1..i have columns -/
structure OutI (t : List (List Pr)) (taken : List Bool) (m n i : Nat) (K : Int) (s : Ou) : Prop where
  lu : s.u.length = n + 1
  lv : s.v.length = m + 1
  lr : s.row.length = m + 1
  lw : s.way.length = m + 1
  inj : ∀ j k, 1 ≤ j → j ≤ m → 1 ≤ k → k ≤ m → gn s.row j ≠ 0 → gn s.row j = gn s.row k → j = k
  le : ∀ j, gn s.row j ≤ i
  cov : ∀ v, 1 ≤ v → v ≤ i → ∃ j, 1 ≤ j ∧ j ≤ m ∧ gn s.row j = v
  mat : ∀ j, 1 ≤ j → j ≤ m → gn s.row j ≠ 0 → okT taken m j
  feas : ∀ r j, 1 ≤ r → r ≤ i → okT taken m j → key (gp s.u r) + key (gp s.v j) ≤ key (cstT t r j)
  tight : ∀ j, 1 ≤ j → j ≤ m → gn s.row j ≠ 0 → cstT t (gn s.row j) j = pl (gp s.u (gn s.row j)) (gp s.v j)
  neg : ∀ j, okT taken m j → key (gp s.v j) ≤ 0
  free : ∀ j, 1 ≤ j → j ≤ m → gn s.row j = 0 → gp s.v j = zeroP
  smU : ∀ r, Sm K (gp s.u r)
  smV : ∀ j, 1 ≤ j → j ≤ m → Sm K (gp s.v j)
  zero : ∀ r, i < r → gp s.u r = zeroP
theorem gp_repl (k : Nat) (a : Pr) (j : Nat) (h : j < k) : gp (List.replicate k a) j = a := by
  unfold gp
  simp [List.getD_eq_getElem?_getD, List.getElem?_replicate, h]
theorem gp_repl0 (k j : Nat) : gp (List.replicate k zeroP) j = zeroP := by
  by_cases h : j < k
  · exact gp_repl k zeroP j h
  · unfold gp; rw [List.getD_eq_getElem?_getD, List.getElem?_eq_none (by simp; omega)]; rfl
section
variable {t : List (List Pr)} {taken : List Bool} {m n i : Nat} {K : Int} {s : Ou}
theorem out_free (hT : TabOk t taken m n) (h : OutI t taken m n i K s) (hi : i < n) : ∃ j, okT taken m j ∧ gn s.row j = 0 := by
  obtain ⟨O, h1, h2, h3⟩ := hT.free
  apply Classical.byContradiction
  intro hno
  have hne : ∀ j ∈ O, gn s.row j ≠ 0 := fun j hj e => hno ⟨j, h2 j hj, e⟩
  have h4 := nodup_len i (O.map fun j => gn s.row j - 1) (by
    refine List.Pairwise.map _ (fun a b hab => hab) (List.Pairwise.imp_of_mem (fun {a b} ha hb hab => ?_) h1)
    intro e
    have ha2 := h2 a ha
    have hb2 := h2 b hb
    have ha3 := hne a ha
    have hb3 := hne b hb
    exact hab (h.inj a b ha2.1 ha2.2.1 hb2.1 hb2.2.1 ha3 (by omega))) (fun x hx => by
    obtain ⟨j, hj, rfl⟩ := List.mem_map.1 hx
    have := h.le j
    have := hne j hj
    omega)
  rw [List.length_map] at h4
  omega
theorem inn_init (hT : TabOk t taken m n) (h : OutI t taken m n i K s) (hi : i < n) (hK0 : 0 ≤ K) : InnI t taken m n (i + 1) K (s.row.set 0 (i + 1)) ⟨s.u, s.v, List.replicate (m + 1) big1, s.way, [], 0⟩ := by
  have hr : ∀ k, gn (s.row.set 0 (i + 1)) k = if 0 = k then i + 1 else gn s.row k := fun k => gn_set (by rw [h.lr]; omega)
  have hr1 : ∀ k, 1 ≤ k → gn (s.row.set 0 (i + 1)) k = gn s.row k := fun k hk => by rw [hr, if_neg (by omega)]
  have hr0 : gn (s.row.set 0 (i + 1)) 0 = i + 1 := by rw [hr, if_pos rfl]
  have hz : key zeroP = 0 := rfl
  refine ⟨h.lu, h.lv, by simp, h.lw, ⟨fun j hj => ⟨hj.1, hj.2.1⟩, fun j h1 h2 h3 => ?_, fun j k h1 h2 h3 h4 => ?_, fun j => ?_, hT.sm, fun r j h1 h2 h3 => ?_, fun j h1 h2 h3 => ?_, h.neg, fun j h1 h2 h3 => ?_⟩, ⟨by simp, rfl, fun q hq => ?_, fun p q hp hq => ?_, fun p q hq => ?_, ?_, fun j h1 h2 _ => h.smV j h1 h2, fun r _ => h.smU r⟩, .inl ⟨rfl, fun j hj => gp_repl _ _ _ (by have := hj.2.1; omega)⟩⟩
  · rw [hr1 j h1] at h3; exact h.mat j h1 h2 h3
  · rcases Nat.eq_zero_or_pos j with h5 | h5
    · subst h5
      rcases Nat.eq_zero_or_pos k with h6 | h6
      · exact h6.symm
      · rw [hr0, hr1 k h6] at h4; have := h.le k; omega
    · rcases Nat.eq_zero_or_pos k with h6 | h6
      · subst h6; rw [hr0, hr1 j h5] at h4; have := h.le j; omega
      · rw [hr1 j h5] at h3 h4; rw [hr1 k h6] at h4
        exact h.inj j k h5 h1 h6 h2 h3 h4
  · rw [hr]; have := h.le j; split <;> omega
  · simp only
    by_cases h5 : r ≤ i
    · exact h.feas r j h1 h5 h3
    · rw [h.zero r (by omega), hz]
      have := hT.nn r j
      have := h.neg j h3
      omega
  · rw [hr1 j h1] at h3 ⊢; exact h.tight j h1 h2 h3
  · rw [hr1 j h1] at h3; exact h.free j h1 h2 h3
  · simp at hq; subst hq
    exact ⟨Nat.zero_le _, by rw [hr0]; omega, fun h => absurd rfl h⟩
  · exfalso
    have := (List.getElem?_eq_some_iff.1 hq).1
    simp at this; omega
  · have h5 := (List.getElem?_eq_some_iff.1 hq).1
    simp at h5; subst h5
    simp at hq; subst hq
    have e : mi (gp s.u (gn (s.row.set 0 (i + 1)) 0)) (gp s.u (gn (s.row.set 0 (i + 1)) 0)) = zeroP := by unfold mi zeroP; simp
    rw [e]
    exact ⟨by simp [zeroP], by simp [zeroP], by simp [zeroP], by simp [zeroP]⟩
  · rw [hr0]
    simp only
    rw [h.zero (i + 1) (by omega)]
    unfold zeroP CC
    exact ⟨by simp only; omega, by simp only; omega, by simp only; omega, by simp only; omega⟩
theorem outer_ok (hT : TabOk t taken m n) (h : OutI t taken m n i K s) (hi : i < n) (hK0 : 0 ≤ K) (hK : K ≤ 100000000000) : ∃ s', outerStep t taken m (i + 1) s = some s' ∧ OutI t taken m n (i + 1) (K + GG) s' := by
  have hin := inn_init hT h hi hK0
  obtain ⟨jf, hjf, hjf0⟩ := out_free hT h hi
  obtain ⟨row, hrow⟩ : ∃ r, s.row.set 0 (i + 1) = r := ⟨_, rfl⟩
  have hr0 : gn row 0 = i + 1 := by rw [← hrow, gn_set (by rw [h.lr]; omega), if_pos rfl]
  have hr1 : ∀ k, 1 ≤ k → gn row k = gn s.row k := fun k hk => by rw [← hrow, gn_set (by rw [h.lr]; omega), if_neg (by omega)]
  have hrl : row.length = m + 1 := by rw [← hrow]; simp [h.lr]
  unfold outerStep
  rw [hrow] at hin ⊢
  obtain ⟨x, h1, h2, h3, h4⟩ := innerGo_ok hT.m60 hK hK0 (by omega) ⟨jf, hjf, by rw [hr1 jf hjf.1]; exact hjf0⟩ (m + 2) _ hin (by simp only [List.length_nil]; omega)
  rw [h1]
  simp only
  have hH := h2.hun
  have hF : Flp t taken m (i + 1) row (gp x.u) (gp x.v) (x.used ++ [x.at_]) row x.at_ x.used.length := by
    refine ⟨hrl, by simp, fun _ _ _ _ => rfl, fun j k j1 k1 _ _ h0 e => hH.inj j k j1 k1 h0 e, fun j j1 j2 _ h0 => hH.tight j j1 j2 h0, fun v v1 v2 => ?_, fun j j1 j2 _ h0 => hH.mat j j1 j2 h0, hH.rle, fun j j1 j2 _ h0 => hH.free j j1 j2 h0⟩
    by_cases hv : v ≤ i
    · obtain ⟨j, g1, g2, g3⟩ := h.cov v v1 hv
      exact ⟨j, g2, fun e => by subst e; rw [hr1 _ g1] at h3; omega, by rw [hr1 j g1]; exact g3⟩
    · exact ⟨0, Nat.zero_le _, by have := h2.ok.1; omega, by rw [hr0]; omega⟩
  have hul : x.used.length ≤ m + 1 := nodup_len (m + 1) x.used (List.Nodup.sublist (List.sublist_append_left _ _) h2.nd) fun q hq => by have := (h2.mem q hq).1; omega
  obtain ⟨r', g1, p', g2⟩ := flip_ok h2 hrl x.used.length (m + 2) row x.at_ hF (by omega)
  rw [g1]
  refine ⟨_, rfl, ⟨h2.lu, h2.lv, g2.len, h2.lw, fun j k j1 j2 k1 k2 h0 e => g2.inj j k j2 k2 (by omega) (by omega) h0 e, g2.le, fun v v1 v2 => ?_, fun j j1 j2 h0 => g2.ok j j1 j2 (by omega) h0, hH.feas, fun j j1 j2 h0 => g2.tight j j1 j2 (by omega) h0, hH.neg, fun j j1 j2 h0 => g2.zer j j1 j2 (by omega) h0, h2.smU, h2.smV, fun r hr => ?_⟩⟩
  · obtain ⟨j, q1, q2, q3⟩ := g2.cov v v1 v2
    exact ⟨j, by omega, q1, q3⟩
  · simp only
    rw [h4 r hr]; exact h.zero r (by omega)
theorem outerGo_ok (hT : TabOk t taken m n) : ∀ (f i : Nat) (K : Int) (s : Ou), OutI t taken m n i K s → i + f = n → 0 ≤ K → K + f * GG ≤ 100000000000 → ∃ s', outerGo t taken m f (i + 1) s = some s' ∧ OutI t taken m n n (K + f * GG) s'
  | 0, i, K, s, h, hf, _, _ => by
    have : i = n := by omega
    subst this
    exact ⟨s, rfl, by simpa using h⟩
  | f + 1, i, K, s, h, hf, hK0, hK => by
    have hg : GG = 3172000000 := by decide
    rw [hg] at hK
    obtain ⟨s', h1, h2⟩ := outer_ok hT h (by omega) hK0 (by omega)
    rw [outerGo, h1]
    simp only
    obtain ⟨s2, h3, h4⟩ := outerGo_ok hT f (i + 1) (K + GG) s' h2 (by omega) (by rw [hg]; omega) (by rw [hg]; omega)
    refine ⟨s2, h3, ?_⟩
    rw [show K + ((f + 1 : Nat) : Int) * GG = K + GG + (f : Int) * GG by rw [hg]; omega]
    exact h4
theorem out_init (hT : TabOk t taken m n) : OutI t taken m n 0 0 ⟨List.replicate (n + 1) zeroP, List.replicate (m + 1) zeroP, List.replicate (m + 1) 0, List.replicate (m + 1) 0⟩ := by
  have hz : Sm 0 zeroP := ⟨by simp [zeroP], by simp [zeroP], by simp [zeroP], by simp [zeroP]⟩
  refine ⟨by simp, by simp, by simp, by simp, fun j k _ _ _ _ h0 => ?_, fun j => ?_, fun v h1 h2 => by omega, fun j _ _ h0 => ?_, fun r j h1 h2 => by omega, fun j _ _ h0 => ?_, fun j _ => ?_, fun j _ _ _ => ?_, fun r => ?_, fun j _ _ => ?_, fun r _ => ?_⟩
  · simp only [gn_repl] at h0; exact absurd rfl h0
  · simp only [gn_repl]; omega
  · simp only [gn_repl] at h0; exact absurd rfl h0
  · simp only [gn_repl] at h0; exact absurd rfl h0
  · simp only [gp_repl0]; decide
  · simp only [gp_repl0]
  · simp only [gp_repl0]; exact hz
  · simp only [gp_repl0]; exact hz
  · simp only [gp_repl0]
end
end Iv
end Go.Proofs.Yteiopfefmphhaaa

set_option autoImplicit false
set_option linter.unusedVariables false
namespace Go.Proofs.Yteiopfefmphhaaa
open Go.Gv
open Go.RowKit
namespace Iv
def sumN (f : Nat → Int) : Nat → Int
  | 0 => 0
  | k + 1 => sumN f k + f k
def sumL (f : Nat → Int) : List Nat → Int
  | [] => 0
  | x :: xs => f x + sumL f xs
theorem sumN_ext {f g : Nat → Int} : ∀ (k : Nat), (∀ j, j < k → f j = g j) → sumN f k = sumN g k
  | 0, _ => rfl
  | k + 1, h => by rw [sumN, sumN, sumN_ext k fun j hj => h j (by omega), h k (by omega)]
theorem sumN_add (f g : Nat → Int) : ∀ k, sumN (fun j => f j + g j) k = sumN f k + sumN g k
  | 0 => rfl
  | k + 1 => by rw [sumN, sumN, sumN, sumN_add f g k]; omega
theorem sumN_le {f g : Nat → Int} : ∀ (k : Nat), (∀ j, j < k → f j ≤ g j) → sumN f k ≤ sumN g k
  | 0, _ => Int.le_refl _
  | k + 1, h => by
    have h1 := sumN_le k fun j hj => h j (by omega)
    have h2 := h k (by omega)
    rw [sumN, sumN]; omega
theorem sumN_head (f : Nat → Int) : ∀ k, sumN f (k + 1) = f 0 + sumN (fun j => f (j + 1)) k
  | 0 => by simp [sumN]
  | k + 1 => by rw [sumN, sumN_head f k, sumN]; omega
theorem sumL_gn (f : Nat → Int) : ∀ xs : List Nat, sumL f xs = sumN (fun r => f (gn xs r)) xs.length
  | [] => rfl
  | x :: xs => by
    rw [sumL, sumL_gn f xs, List.length_cons, sumN_head]
    rfl
theorem sumL_erase (f : Nat → Int) (a : Nat) : ∀ xs : List Nat, a ∈ xs → sumL f xs = f a + sumL f (xs.erase a)
  | x :: xs, h => by
    by_cases hx : x = a
    · subst hx; rw [List.erase_cons_head]; rfl
    · have h1 : a ∈ xs := by
        rcases List.mem_cons.1 h with e | h
        · exact absurd e.symm hx
        · exact h
      rw [List.erase_cons_tail (by simpa using hx), sumL, sumL, sumL_erase f a xs h1]; omega
theorem sum_all (f : Nat → Int) : ∀ (m : Nat) (O : List Nat), O.Nodup → (∀ x ∈ O, x < m) → (∀ j, j < m → ¬ j ∈ O → f j = 0) → sumN f m = sumL f O
  | 0, O, _, h, _ => by
    cases O with
    | nil => rfl
    | cons x O => exact absurd (h x (by simp)) (by omega)
  | m + 1, O, hd, h, hz => by
    by_cases hm : m ∈ O
    · rw [sumN, sumL_erase f m O hm, sum_all f m (O.erase m) (hd.erase m) (fun x hx => by
        have h2 := (List.Nodup.mem_erase_iff hd).1 hx
        have := h x h2.2
        have := h2.1
        omega) (fun j hj hn => hz j (by omega) fun hj2 => hn ((List.Nodup.mem_erase_iff hd).2 ⟨by omega, hj2⟩))]
      omega
    · rw [sumN, sum_all f m O hd (fun x hx => by
        have := h x hx
        have : x ≠ m := fun e => by subst e; exact hm hx
        omega) (fun j hj hn => hz j (by omega) hn), hz m (by omega) hm]
      omega
theorem sum_sub (f : Nat → Int) : ∀ (m : Nat) (O : List Nat), O.Nodup → (∀ x ∈ O, x < m) → (∀ j, j < m → f j ≤ 0) → sumN f m ≤ sumL f O
  | 0, O, _, h, _ => by
    cases O with
    | nil => exact Int.le_refl _
    | cons x O => exact absurd (h x (by simp)) (by omega)
  | m + 1, O, hd, h, hz => by
    have h0 := hz m (by omega)
    by_cases hm : m ∈ O
    · have h1 := sum_sub f m (O.erase m) (hd.erase m) (fun x hx => by
        have h2 := (List.Nodup.mem_erase_iff hd).1 hx
        have := h x h2.2
        have := h2.1
        omega) (fun j hj => hz j (by omega))
      rw [sumN, sumL_erase f m O hm]; omega
    · have h1 := sum_sub f m O hd (fun x hx => by
        have := h x hx
        have : x ≠ m := fun e => by subst e; exact hm hx
        omega) (fun j hj => hz j (by omega))
      rw [sumN]; omega
/-- the price of a list of columns -/
def priceK (t : List (List Pr)) (f : List Nat) : Int := sumN (fun r => key (tbl t r (gn f r))) f.length
/-- a list of columns that is a matching -/
structure Asg (taken : List Bool) (m n : Nat) (f : List Nat) : Prop where
  len : f.length = n
  nd : f.Nodup
  ok : ∀ c ∈ f, c < m ∧ taken.getD c false = false
theorem Asg.okT {taken : List Bool} {m n : Nat} {f : List Nat} (h : Asg taken m n f) {r : Nat} (hr : r < n) : okT taken m (gn f r + 1) := by
  have h1 := h.ok (gn f r) (List.mem_of_getElem? (gn_mem (by rw [h.len]; exact hr)))
  exact ⟨by omega, by omega, h1.2⟩
section
variable {t : List (List Pr)} {taken : List Bool} {m n : Nat} {K : Int} {s : Ou}
def colK (t : List (List Pr)) (row : List Nat) (j : Nat) : Int := if gn row (j + 1) = 0 then 0 else key (cstT t (gn row (j + 1)) (j + 1))
theorem res_ok (hT : TabOk t taken m n) (h : OutI t taken m n n K s) : ∀ q, q ≤ m → (resTo t s.row n q).1.length = n ∧ (∀ j, 1 ≤ j → j ≤ q → gn s.row j ≠ 0 → gn (resTo t s.row n q).1 (gn s.row j - 1) = j - 1) ∧ Sm (q * CC) (resTo t s.row n q).2 ∧ key (resTo t s.row n q).2 = sumN (colK t s.row) q
  | 0, _ => ⟨by simp [resTo], fun j h1 h2 => by omega, ⟨by simp [resTo, zeroP], by simp [resTo, zeroP], by simp [resTo, zeroP], by simp [resTo, zeroP]⟩, by simp [resTo, sumN]; rfl⟩
  | q + 1, hq => by
    obtain ⟨h1, h2, h3, h4⟩ := res_ok hT h q (by omega)
    have hm := hT.m60
    rw [resTo_succ]
    generalize resTo t s.row n q = o at h1 h2 h3 h4 ⊢
    unfold resOne
    by_cases hr : 0 < gn s.row (q + 1)
    · rw [if_pos hr]
      have hle := h.le (q + 1)
      have hc := hT.sm (gn s.row (q + 1)) (q + 1)
      have hs1 : (q : Int) * CC + CC ≤ 9223372036854775807 := by unfold CC; omega
      have hs2 : ((q + 1 : Nat) : Int) * CC = (q : Int) * CC + CC := by unfold CC; omega
      refine ⟨by simp [h1], fun j j1 j2 j3 => ?_, ?_, ?_⟩
      · simp only
        rw [gn_set (by rw [h1]; omega)]
        by_cases hj : j = q + 1
        · subst hj; rw [if_pos rfl]
        · rw [if_neg fun e => hj (h.inj j (q + 1) j1 (by omega) (by omega) hq j3 (by omega))]
          exact h2 j j1 (by omega) j3
      · rw [hs2]; exact h3.add hc hs1
      · show key (o.2.add (cstT t (gn s.row (q + 1)) (q + 1))) = _
        rw [key_add h3 hc hs1, sumN, h4]
        unfold colK
        rw [if_neg (by omega)]
    · rw [if_neg hr]
      have hr0 : gn s.row (q + 1) = 0 := by omega
      refine ⟨h1, fun j j1 j2 j3 => ?_, h3.mono (by unfold CC; omega), ?_⟩
      · by_cases hj : j = q + 1
        · subst hj; omega
        · exact h2 j j1 (by omega) j3
      · rw [h4, sumN]
        unfold colK
        rw [if_pos hr0]; omega
theorem opt_ok (hT : TabOk t taken m n) (h : OutI t taken m n n K s) {ol : List Nat} {sum : Pr} (hres : resTo t s.row n m = (ol, sum)) : Asg taken m n ol ∧ key sum = priceK t ol ∧ Sm (m * CC) sum ∧ ∀ f, Asg taken m n f → key sum ≤ priceK t f := by
  obtain ⟨h1, h2, h3, h4⟩ := res_ok hT h m (Nat.le_refl _)
  rw [hres] at h1 h2 h3 h4
  simp only at h1 h2 h3 h4
  have hrow : ∀ r, r < n → gn ol r < m ∧ gn s.row (gn ol r + 1) = r + 1 := fun r hr => by
    obtain ⟨j, j1, j2, j3⟩ := h.cov (r + 1) (by omega) (by omega)
    have h5 := h2 j j1 j2 (by omega)
    rw [j3] at h5
    simp only [Nat.add_sub_cancel] at h5
    rw [h5]
    refine ⟨by omega, ?_⟩
    rw [show j - 1 + 1 = j by omega]; exact j3
  have hmem : ∀ c ∈ ol, ∃ r, r < n ∧ gn ol r = c := fun c hc => by
    obtain ⟨r, hr⟩ := List.getElem?_of_mem hc
    have hrl := (List.getElem?_eq_some_iff.1 hr).1
    rw [gn_mem hrl] at hr
    exact ⟨r, by omega, Option.some.inj hr⟩
  have hnd : ol.Nodup := by
    refine List.pairwise_iff_getElem.2 fun i j hi hj hij e => ?_
    have e1 : gn ol i = ol[i] := by simp [gn, hi]
    have e2 : gn ol j = ol[j] := by simp [gn, hj]
    have h5 := (hrow i (by omega)).2
    have h6 := (hrow j (by omega)).2
    rw [e1, e, ← e2] at h5
    omega
  have hA : Asg taken m n ol := ⟨h1, hnd, fun c hc => by
    obtain ⟨r, hr, rfl⟩ := hmem c hc
    obtain ⟨g1, g2⟩ := hrow r hr
    have := h.mat (gn ol r + 1) (by omega) (by omega) (by omega)
    exact ⟨g1, this.2.2⟩⟩
  have hin : ∀ j, j < m → gn s.row (j + 1) ≠ 0 → j ∈ ol := fun j hj h0 => by
    have h5 := h2 (j + 1) (by omega) (by omega) h0
    have h6 := h.le (j + 1)
    have h7 : gn s.row (j + 1) - 1 < ol.length := by omega
    have := List.mem_of_getElem? (gn_mem h7)
    rw [h5] at this
    simpa using this
  have hk : key sum = priceK t ol := by
    rw [h4, sum_all (colK t s.row) m ol hnd (fun x hx => (hA.ok x hx).1) (fun j hj hn => by
      unfold colK
      by_cases h0 : gn s.row (j + 1) = 0
      · rw [if_pos h0]
      · exact absurd (hin j hj h0) hn), sumL_gn]
    unfold priceK
    refine sumN_ext _ fun r hr => ?_
    have h5 := (hrow r (by omega)).2
    unfold colK
    rw [if_neg (by omega), h5]
    rfl
  refine ⟨hA, hk, h3, fun f hf => ?_⟩
  rw [hk]
  obtain ⟨psi, hpsi⟩ : ∃ psi : Nat → Int, psi = fun j => if taken.getD j false = false then key (gp s.v (j + 1)) else 0 := ⟨_, rfl⟩
  have e1 : priceK t ol = sumN (fun r => key (gp s.u (r + 1))) n + sumL psi ol := by
    rw [sumL_gn, h1, ← sumN_add]
    unfold priceK
    rw [h1]
    refine sumN_ext _ fun r hr => ?_
    obtain ⟨g1, g2⟩ := hrow r hr
    have h5 := h.tight (gn ol r + 1) (by omega) (by omega) (by omega)
    rw [g2] at h5
    have h6 : tbl t r (gn ol r) = cstT t (r + 1) (gn ol r + 1) := rfl
    rw [h6, h5, key_pl, hpsi]
    simp only
    have h8 : taken.getD (gn ol r) false = false := (hA.okT hr).2.2
    rw [if_pos h8]
  have e2 : sumN psi m = sumL psi ol := sum_all psi m ol hnd (fun x hx => (hA.ok x hx).1) fun j hj hn => by
    rw [hpsi]
    simp only
    split
    · rw [h.free (j + 1) (by omega) (by omega) (Classical.byContradiction fun h0 => hn (hin j hj h0))]; rfl
    · rfl
  have e3 : sumN psi m ≤ sumL psi f := sum_sub psi m f hf.nd (fun x hx => (hf.ok x hx).1) fun j hj => by
    rw [hpsi]
    simp only
    split
    · rename_i h0; exact h.neg (j + 1) ⟨by omega, by omega, h0⟩
    · exact Int.le_refl _
  have e4 : sumN (fun r => key (gp s.u (r + 1))) n + sumL psi f ≤ priceK t f := by
    rw [sumL_gn, hf.len, ← sumN_add]
    unfold priceK
    rw [hf.len]
    refine sumN_le _ fun r hr => ?_
    have h5 := hf.okT hr
    have h6 := h.feas (r + 1) (gn f r + 1) (by omega) (by omega) h5
    have h7 : tbl t r (gn f r) = cstT t (r + 1) (gn f r + 1) := rfl
    rw [h7, hpsi]
    simp only
    have h8 : taken.getD (gn f r) false = false := h5.2.2
    rw [if_pos h8]; exact h6
  omega
end
end Iv
end Go.Proofs.Yteiopfefmphhaaa

set_option autoImplicit false
set_option linter.unusedVariables false
namespace Go.Proofs.Yteiopfefmphhaaa
open Go.Gv
open Go.RowKit
namespace Iv
/-- the assignment: it ends, and is of least price -/
theorem assignP_ok {t : List (List Pr)} {taken : List Bool} {m n : Nat} (hT : TabOk t taken m n) (hn : t.length = n) (hn20 : n ≤ 30) (hm : ∀ ps ∈ t, ps.length = m) : ∃ ol sum, assignP t taken = some (ol, sum) ∧ Asg taken m n ol ∧ key sum = priceK t ol ∧ Sm (60 * CC) sum ∧ ∀ f, Asg taken m n f → key sum ≤ priceK t f := by
  unfold assignP
  by_cases ht : t = []
  · subst ht
    rw [if_pos rfl]
    simp only [List.length_nil] at hn
    subst hn
    refine ⟨[], zeroP, rfl, ⟨rfl, List.nodup_nil, by simp⟩, rfl, ⟨by simp [zeroP, CC], by simp [zeroP, CC], by simp [zeroP, CC], by simp [zeroP, CC]⟩, fun f hf => ?_⟩
    have : f = [] := List.eq_nil_of_length_eq_zero hf.len
    subst this
    exact Int.le_refl _
  · rw [if_neg ht]
    have hm0 : (t.getD 0 []).length = m := by
      cases t with
      | nil => exact absurd rfl ht
      | cons ps t => exact hm ps (by simp)
    rw [hm0, hn]
    have hg : GG = 3172000000 := by decide
    obtain ⟨s, h1, h2⟩ := outerGo_ok hT n 0 0 _ (out_init hT) (by omega) (Int.le_refl _) (by rw [hg]; omega)
    rw [Nat.zero_add] at h1
    rw [h1]
    simp only
    obtain ⟨g1, g2, g3, g4⟩ := opt_ok hT h2 (ol := (resTo t s.row n m).1) (sum := (resTo t s.row n m).2) rfl
    have := hT.m60
    exact ⟨_, _, rfl, g1, g2, g3.mono (by unfold CC; omega), g4⟩
/-- entries of a table -/
structure EntOk (t : List (List Pr)) : Prop where
  e : ∀ ps ∈ t, ∀ p ∈ ps, 0 ≤ p.a ∧ p.a ≤ 1000 ∧ 0 ≤ p.b ∧ p.b ≤ CC
theorem EntOk.tbl {t : List (List Pr)} (h : EntOk t) (r j : Nat) : 0 ≤ (tbl t r j).a ∧ (tbl t r j).a ≤ 1000 ∧ 0 ≤ (tbl t r j).b ∧ (tbl t r j).b ≤ CC := by
  unfold Iv.tbl gp
  by_cases hr : r < t.length
  · rw [show t.getD r [] = t[r] by simp [hr]]
    by_cases hj : j < (t[r]).length
    · rw [show (t[r]).getD j default = (t[r])[j] by simp [hj]]
      exact h.e _ (List.getElem_mem _) _ (List.getElem_mem _)
    · rw [List.getD_eq_getElem?_getD, List.getElem?_eq_none (by omega)]
      exact ⟨by decide, by decide, by decide, by decide⟩
  · rw [show (t.getD r []).getD j default = (⟨0, 0⟩ : Pr) by rw [List.getD_eq_getElem?_getD (l := t), List.getElem?_eq_none (by omega)]; rfl]
    exact ⟨by decide, by decide, by decide, by decide⟩
theorem tabOk {t : List (List Pr)} {taken : List Bool} {m n : Nat} (h : EntOk t) (hm : m ≤ 60) (hf : ∃ O : List Nat, O.Nodup ∧ (∀ c ∈ O, c < m ∧ taken.getD c false = false) ∧ n ≤ O.length) : TabOk t taken m n := by
  refine ⟨fun r j => ?_, fun r j => ?_, hm, ?_⟩
  · obtain ⟨h1, h2, h3, h4⟩ := h.tbl (r - 1) (j - 1)
    unfold cstT CC at *
    exact ⟨by omega, by omega, by omega, by omega⟩
  · obtain ⟨h1, h2, h3, h4⟩ := h.tbl (r - 1) (j - 1)
    unfold cstT key
    omega
  · obtain ⟨O, h1, h2, h3⟩ := hf
    refine ⟨O.map (· + 1), List.Pairwise.map _ (fun a b hab e => hab (by omega)) h1, fun j hj => ?_, by simpa using h3⟩
    obtain ⟨c, hc, rfl⟩ := List.mem_map.1 hj
    have := h2 c hc
    exact ⟨by omega, by omega, this.2⟩
theorem tableP_ent {l : List Pipe} {w : List Wish} (hd : Dat l w) : EntOk (tableP l w) := by
  refine ⟨fun ps hps p hp => ?_⟩
  unfold tableP at hps
  obtain ⟨i, hi, rfl⟩ := List.mem_map.1 hps
  have hi := List.mem_range.1 hi
  unfold rowP at hp
  rcases List.mem_append.1 hp with h | h
  · obtain ⟨q, hq, rfl⟩ := List.mem_map.1 h
    unfold pipeCol
    split
    · rename_i hf
      have h1 := cost_nn q (w.getD i default)
      have h2 := cost_le (hd.p q hq) (hd.w (w.getD i default) (by simp [hi])) hf
      exact ⟨by simp, by simp, h1, h2⟩
    · exact ⟨by decide, by decide, by decide, by decide⟩
  · obtain ⟨k, _, rfl⟩ := List.mem_map.1 h
    unfold dumCol
    split
    · exact ⟨by decide, by decide, by decide, by decide⟩
    · exact ⟨by decide, by decide, by decide, by decide⟩
theorem assign_all {l : List Pipe} {w : List Wish} (hd : Dat l w) : ∃ ol sum, assignP (tableP l w) (List.replicate (l.length + w.length) false) = some (ol, sum) ∧ Asg (List.replicate (l.length + w.length) false) (l.length + w.length) w.length ol ∧ key sum = priceK (tableP l w) ol ∧ Sm (60 * CC) sum ∧ ∀ f, Asg (List.replicate (l.length + w.length) false) (l.length + w.length) w.length f → key sum ≤ priceK (tableP l w) f := by
  have h1 := hd.ln
  have h2 := hd.wn
  refine assignP_ok (tabOk (tableP_ent hd) (by omega) ⟨List.range w.length, List.nodup_range, fun c hc => ?_, by simp⟩) (tableP_len l w) (by omega) (fun ps h => tableP_row h)
  have := List.mem_range.1 hc
  exact ⟨by omega, by simp [show c < l.length + w.length by omega]⟩
end Iv
end Go.Proofs.Yteiopfefmphhaaa

set_option autoImplicit false
set_option linter.unusedVariables false
namespace Go.Proofs.Yteiopfefmphhaaa
open Go.Gv
open Go.RowKit
namespace Iv
theorem key_inj {p q : Pr} (hp : -big ≤ p.b ∧ p.b ≤ big) (hq : -big ≤ q.b ∧ q.b ≤ big) (h : key p = key q) : p = q := by
  unfold key at h; unfold big at *
  apply pr_ext <;> omega
theorem tbl_drop (t : List (List Pr)) (i r j : Nat) : tbl (t.drop i) r j = tbl t (i + r) j := by
  unfold tbl
  rw [List.getD_eq_getElem?_getD, List.getD_eq_getElem?_getD (l := t), List.getElem?_drop]
theorem priceK_cons (t : List (List Pr)) (i k : Nat) (f : List Nat) : priceK (t.drop i) (k :: f) = key (tbl t i k) + priceK (t.drop (i + 1)) f := by
  unfold priceK
  rw [List.length_cons, sumN_head]
  have e1 : gn (k :: f) 0 = k := rfl
  rw [e1, tbl_drop, Nat.add_zero]
  congr 1
  refine sumN_ext _ fun r _ => ?_
  have e2 : gn (k :: f) (r + 1) = gn f r := rfl
  rw [e2, tbl_drop, tbl_drop, show i + (r + 1) = i + 1 + r by omega]
theorem getD_setB {taken : List Bool} {k c : Nat} (h : k < taken.length) : (taken.set k true).getD c false = if k = c then true else taken.getD c false := by
  exact getD_set taken k c true h
theorem Asg.cons {taken : List Bool} {N n k : Nat} {f : List Nat} (hN : N ≤ taken.length) (hk : k < N) (hf : taken.getD k false = false) (h : Asg (taken.set k true) N n f) : Asg taken N (n + 1) (k :: f) := by
  have hc : ∀ c ∈ f, c < N ∧ taken.getD c false = false ∧ c ≠ k := fun c hc => by
    have h1 := h.ok c hc
    rw [getD_setB (by omega)] at h1
    by_cases he : k = c
    · rw [if_pos he] at h1; cases h1.2
    · rw [if_neg he] at h1; exact ⟨h1.1, h1.2, fun e => he e.symm⟩
  refine ⟨by rw [List.length_cons, h.len], List.nodup_cons.2 ⟨fun hm => (hc k hm).2.2 rfl, h.nd⟩, fun c hcm => ?_⟩
  rcases List.mem_cons.1 hcm with rfl | hcm
  · exact ⟨hk, hf⟩
  · exact ⟨(hc c hcm).1, (hc c hcm).2.1⟩
theorem Asg.tail {taken : List Bool} {N n k : Nat} {f : List Nat} (hN : N ≤ taken.length) (h : Asg taken N (n + 1) (k :: f)) : k < N ∧ taken.getD k false = false ∧ Asg (taken.set k true) N n f := by
  have hk := h.ok k (by simp)
  have hnd := List.nodup_cons.1 h.nd
  refine ⟨hk.1, hk.2, by have := h.len; simpa using this, hnd.2, fun c hc => ?_⟩
  have h1 := h.ok c (List.mem_cons_of_mem _ hc)
  rw [getD_setB (by omega), if_neg (fun e => by subst e; exact hnd.1 hc)]
  exact h1
/-- where Best stands: the columns of the first i rows -/
structure BI (l : List Pipe) (w : List Wish) (i : Nat) (s : Bs) : Prop where
  len : s.taken.length = l.length + w.length
  ll : s.list.length = i
  nd : s.list.Nodup
  lt : ∀ c ∈ s.list, c < l.length + w.length
  mark : ∀ c, c < l.length + w.length → s.taken.getD c false = decide (c ∈ s.list)
  own : ∀ k, i ≤ k → k < w.length → ¬ (l.length + k) ∈ s.list
  sm : Sm (60 * CC) s.sum
  opt : ∃ ol, Asg s.taken (l.length + w.length) (w.length - i) ol ∧ key s.sum = priceK ((tableP l w).drop i) ol
  le : ∀ f, Asg s.taken (l.length + w.length) (w.length - i) f → key s.sum ≤ priceK ((tableP l w).drop i) f
/-- column k may be row i's, at the price -/
def Acc (l : List Pipe) (w : List Wish) (i : Nat) (s : Bs) (k : Nat) : Prop :=
  k < l.length + w.length ∧ s.taken.getD k false = false ∧ ∃ f, Asg (s.taken.set k true) (l.length + w.length) (w.length - (i + 1)) f ∧ key (tbl (tableP l w) i k) + priceK ((tableP l w).drop (i + 1)) f = key s.sum
section
variable {l : List Pipe} {w : List Wish} {i : Nat} {s : Bs}
theorem ent_drop {t : List (List Pr)} (h : EntOk t) (i : Nat) : EntOk (t.drop i) := ⟨fun ps hps => h.e ps (List.mem_of_mem_drop hps)⟩
theorem tbl_dum {i k : Nat} (hi : i < w.length) (hk : k < w.length) : tbl (tableP l w) i (l.length + k) = dumCol i k := by
  unfold tbl tableP gp
  rw [show ((List.range w.length).map fun i => rowP l w.length i (w.getD i default)).getD i [] = rowP l w.length i (w.getD i default) by simp [hi]]
  unfold rowP
  rw [List.getD_eq_getElem?_getD, List.getElem?_append_right (by simp)]
  simp [hk]
/-- the own dummies -/
theorem own_asg (h : BI l w i s) : Asg s.taken (l.length + w.length) (w.length - i) ((List.range (w.length - i)).map fun r => l.length + (i + r)) := by
  refine ⟨by simp, List.Pairwise.map _ (fun a b hab e => hab (by omega)) List.nodup_range, fun c hc => ?_⟩
  obtain ⟨r, hr, rfl⟩ := List.mem_map.1 hc
  have hr := List.mem_range.1 hr
  refine ⟨by omega, ?_⟩
  rw [h.mark _ (by omega)]
  exact decide_eq_false (h.own (i + r) (by omega) (by omega))
theorem sumN_const (c : Int) : ∀ k : Nat, sumN (fun _ => c) k = k * c
  | 0 => by simp [sumN]
  | k + 1 => by rw [sumN, sumN_const c k, Int.natCast_succ, Int.add_mul, Int.one_mul]
theorem sum_le (h : BI l w i s) : key s.sum ≤ (w.length : Int) * 1125899906842624 := by
  have h1 := h.le _ (own_asg h)
  have h2 : priceK ((tableP l w).drop i) ((List.range (w.length - i)).map fun r => l.length + (i + r)) = sumN (fun _ => 1125899906842624) (w.length - i) := by
    unfold priceK
    rw [List.length_map, List.length_range]
    refine sumN_ext _ fun r hr => ?_
    have e : gn ((List.range (w.length - i)).map fun r => l.length + (i + r)) r = l.length + (i + r) := by simp [gn, hr]
    rw [e, tbl_drop, tbl_dum (by omega) (by omega)]
    unfold dumCol
    rw [if_pos rfl]; rfl
  rw [h2, sumN_const] at h1
  have : ((w.length - i : Nat) : Int) ≤ (w.length : Int) := by omega
  omega
theorem price_nn {t : List (List Pr)} (h : EntOk t) (f : List Nat) : 0 ≤ priceK t f := by
  unfold priceK
  have h1 := sumN_le (f := fun _ => 0) (g := fun r => key (tbl t r (gn f r))) f.length fun j _ => by
    obtain ⟨a, b, c, d⟩ := h.tbl j (gn f j)
    unfold key; omega
  rw [sumN_const] at h1
  omega
theorem never_no (hd : Dat l w) (h : BI l w i s) {k : Nat} (hk : tbl (tableP l w) i k = never) : ¬ Acc l w i s k := by
  rintro ⟨_, _, f, _, h2⟩
  have h3 := sum_le h
  have h4 := price_nn (ent_drop (tableP_ent hd) (i + 1)) f
  have h5 := hd.wn
  rw [hk] at h2
  have h6 : key never = 1000 * 1125899906842624 := rfl
  omega
end
end Iv
end Go.Proofs.Yteiopfefmphhaaa

set_option autoImplicit false
set_option linter.unusedVariables false
namespace Go.Proofs.Yteiopfefmphhaaa
open Go.Gv
open Go.RowKit
namespace Iv
section
variable {l : List Pipe} {w : List Wish} {i : Nat} {s : Bs}
theorem rest_ok (hd : Dat l w) (h : BI l w i s) (hi : i < w.length) {k : Nat} (hk : k < l.length + w.length) (hf : s.taken.getD k false = false) (hnv : tbl (tableP l w) i k ≠ never) :
    (∀ q, i + 1 ≤ q → q < w.length → l.length + q ≠ k) ∧ ∃ ol rest, assignP ((tableP l w).drop (i + 1)) (s.taken.set k true) = some (ol, rest) ∧ Asg (s.taken.set k true) (l.length + w.length) (w.length - (i + 1)) ol ∧ key rest = priceK ((tableP l w).drop (i + 1)) ol ∧ Sm (60 * CC) rest ∧ ∀ f, Asg (s.taken.set k true) (l.length + w.length) (w.length - (i + 1)) f → key rest ≤ priceK ((tableP l w).drop (i + 1)) f := by
  have hl := hd.ln
  have hw := hd.wn
  have hq : ∀ q, i + 1 ≤ q → q < w.length → l.length + q ≠ k := fun q h1 h2 e => by
    subst e
    rw [tbl_dum hi h2] at hnv
    unfold dumCol at hnv
    rw [if_neg (by omega)] at hnv
    exact hnv rfl
  refine ⟨hq, ?_⟩
  refine assignP_ok (tabOk (ent_drop (tableP_ent hd) _) (by omega) ⟨(List.range (w.length - (i + 1))).map fun r => l.length + (i + 1 + r), List.Pairwise.map _ (fun a b hab e => hab (by omega)) List.nodup_range, fun c hc => ?_, by simp⟩) (by rw [List.length_drop, tableP_len]) (by omega) (fun ps hps => tableP_row (List.mem_of_mem_drop hps))
  obtain ⟨r, hr, rfl⟩ := List.mem_map.1 hc
  have hr := List.mem_range.1 hr
  refine ⟨by omega, ?_⟩
  rw [getD_setB (by rw [h.len]; exact hk), if_neg (fun e => hq (i + 1 + r) (by omega) (by omega) e.symm), h.mark _ (by omega)]
  exact decide_eq_false (h.own _ (by omega) (by omega))
theorem set_back {xs : List Bool} {k : Nat} (h : xs.getD k false = false) : (xs.set k true).set k false = xs := by
  rw [List.set_set]
  apply List.ext_getElem?
  intro j
  by_cases hj : k = j
  · subst hj
    by_cases hk : k < xs.length
    · rw [List.getElem?_set_self hk]
      simp [hk] at h
      simp [hk, h]
    · rw [List.getElem?_eq_none (by simp; omega), List.getElem?_eq_none (by omega)]
  · rw [List.getElem?_set_ne hj]
theorem ent_b (hd : Dat l w) (i k : Nat) : Sm CC (tbl (tableP l w) i k) := by
  obtain ⟨a, b, c, d⟩ := (tableP_ent hd).tbl i k
  unfold CC at *
  exact ⟨by omega, by omega, by omega, by omega⟩
theorem bestJ_ok (hd : Dat l w) (h : BI l w i s) (hi : i < w.length) : ∀ (f j : Nat), j + f = l.length + w.length → (∃ k, j ≤ k ∧ Acc l w i s k) → ∃ s2, bestJ (tableP l w) i f j s = some s2 ∧ ∃ k, s2.list = s.list ++ [k] ∧ s2.taken = s.taken.set k true ∧ Acc l w i s k ∧ (∀ q, j ≤ q → q < k → ¬ Acc l w i s q) ∧ BI l w (i + 1) s2 ∧ key (tbl (tableP l w) i k) + key s2.sum = key s.sum
  | 0, j, hj, ⟨k, h1, h2⟩ => by have := h2.1; omega
  | f + 1, j, hj, ⟨k0, h1, h2⟩ => by
    have hjN : j < l.length + w.length := by omega
    have next : ¬ Acc l w i s j → ∃ s2, bestJ (tableP l w) i f (j + 1) s = some s2 ∧ ∃ k, s2.list = s.list ++ [k] ∧ s2.taken = s.taken.set k true ∧ Acc l w i s k ∧ (∀ q, j ≤ q → q < k → ¬ Acc l w i s q) ∧ BI l w (i + 1) s2 ∧ key (tbl (tableP l w) i k) + key s2.sum = key s.sum := fun hn => by
      have hne : k0 ≠ j := fun e => by subst e; exact hn h2
      obtain ⟨s2, g1, k, g2, g2b, g3, g4, g5⟩ := bestJ_ok hd h hi f (j + 1) (by omega) ⟨k0, by omega, h2⟩
      refine ⟨s2, g1, k, g2, g2b, g3, fun q q1 q2 => ?_, g5⟩
      by_cases hq : q = j
      · subst hq; exact hn
      · exact g4 q (by omega) q2
    rw [bestJ]
    by_cases hs : skipB (tableP l w) i j s.taken = true
    · rw [if_pos hs]
      refine next fun ha => ?_
      unfold skipB at hs
      rw [ha.2.1, Bool.false_or] at hs
      exact never_no hd h (of_decide_eq_true hs) ha
    · rw [if_neg hs]
      unfold skipB at hs
      rw [Bool.not_eq_true, Bool.or_eq_false_iff] at hs
      obtain ⟨hf, hnv⟩ := hs
      have hnv := of_decide_eq_false hnv
      obtain ⟨hq, ol, rest, r1, r2, r3, r4, r5⟩ := rest_ok hd h hi hjN hf hnv
      rw [r1]
      simp only
      have hsmc := ent_b hd i j
      have hke := key_add hsmc r4 (by unfold CC; omega)
      have hss := h.sm
      have hsa := hsmc.add r4 (by unfold CC; omega)
      by_cases he : (tbl (tableP l w) i j).add rest = s.sum
      · rw [if_pos he]
        rw [he] at hke
        have hacc : Acc l w i s j := ⟨hjN, hf, ol, r2, by rw [← r3]; omega⟩
        refine ⟨_, rfl, j, rfl, rfl, hacc, fun q q1 q2 => by omega, ⟨by simp [h.len], by simp [h.ll], ?_, fun c hc => ?_, fun c hc => ?_, fun q q1 q2 => ?_, r4, ⟨ol, r2, r3⟩, r5⟩, by simp only; omega⟩
        · refine nd_snoc h.nd fun hm => ?_
          rw [h.mark j hjN, decide_eq_true hm] at hf; cases hf
        · rcases List.mem_append.1 hc with h3 | h3
          · exact h.lt c h3
          · rw [List.mem_singleton] at h3; subst h3; exact hjN
        · simp only
          rw [getD_setB (by rw [h.len]; exact hjN)]
          by_cases hjc : j = c
          · rw [if_pos hjc]; simp [hjc]
          · rw [if_neg hjc, h.mark c hc]
            simp [show ¬ c = j from fun e => hjc e.symm]
        · simp only
          intro hm
          rcases List.mem_append.1 hm with h3 | h3
          · exact h.own q (by omega) q2 h3
          · rw [List.mem_singleton] at h3; exact hq q q1 q2 h3
      · rw [if_neg he, set_back hf]
        refine next fun ⟨_, _, f2, a1, a2⟩ => he ?_
        have h6 := r5 f2 a1
        have h7 := h.le (j :: ol) (by rw [show w.length - i = (w.length - (i + 1)) + 1 by omega]; exact Asg.cons (by rw [h.len]; exact Nat.le_refl _) hjN hf r2)
        rw [priceK_cons, ← r3] at h7
        obtain ⟨_, _, b3, b4⟩ := hsa
        obtain ⟨_, _, c3, c4⟩ := hss
        exact key_inj ⟨by unfold big CC at *; omega, by unfold big CC at *; omega⟩ ⟨by unfold big CC at *; omega, by unfold big CC at *; omega⟩ (by omega)
theorem acc_ex (h : BI l w i s) (hi : i < w.length) : ∃ k, Acc l w i s k := by
  obtain ⟨ol, h1, h2⟩ := h.opt
  rw [show w.length - i = (w.length - (i + 1)) + 1 by omega] at h1
  match ol, h1, h2 with
  | [], h1, _ => have := h1.len; simp at this
  | k :: f, h1, h2 =>
    obtain ⟨a, b, c⟩ := h1.tail (by rw [h.len]; exact Nat.le_refl _)
    rw [priceK_cons] at h2
    exact ⟨k, a, b, f, c, h2.symm⟩
end
end Iv
end Go.Proofs.Yteiopfefmphhaaa

set_option autoImplicit false
set_option linter.unusedVariables false
namespace Go.Proofs.Yteiopfefmphhaaa
open Go.Gv
open Go.RowKit
namespace Iv
def LexLe : List Nat → List Nat → Prop
  | [], _ => True
  | _ :: _, [] => False
  | a :: xs, b :: ys => a < b ∨ (a = b ∧ LexLe xs ys)
section
variable {l : List Pipe} {w : List Wish}
theorem bestI_ok (hd : Dat l w) : ∀ (f i : Nat) (s : Bs), i + f = w.length → BI l w i s → ∃ sf, bestI (tableP l w) (l.length + w.length) f i s = some sf ∧ ∃ su, sf.list = s.list ++ su ∧ Asg s.taken (l.length + w.length) f su ∧ priceK ((tableP l w).drop i) su = key s.sum ∧ ∀ g, Asg s.taken (l.length + w.length) f g → priceK ((tableP l w).drop i) g = key s.sum → LexLe su g
  | 0, i, s, hf, h => by
    obtain ⟨ol, h1, h2⟩ := h.opt
    have h3 : ol = [] := List.eq_nil_of_length_eq_zero (by rw [h1.len]; omega)
    subst h3
    rw [show w.length - i = 0 by omega] at h1
    exact ⟨s, rfl, [], by simp, h1, h2.symm, fun _ _ _ => trivial⟩
  | f + 1, i, s, hf, h => by
    obtain ⟨k0, hk0⟩ := acc_ex h (by omega)
    obtain ⟨s2, g1, k, g2, g2b, g3, g4, g5, g6⟩ := bestJ_ok hd h (by omega) (l.length + w.length) 0 (by omega) ⟨k0, Nat.zero_le _, hk0⟩
    obtain ⟨sf, e1, su, e2, e3, e4, e5⟩ := bestI_ok hd f (i + 1) s2 (by omega) g5
    rw [bestI, g1]
    simp only
    rw [g2b] at e3 e5
    have hN : l.length + w.length ≤ s.taken.length := by rw [h.len]; exact Nat.le_refl _
    refine ⟨sf, e1, k :: su, by rw [e2, g2]; simp, Asg.cons hN g3.1 g3.2.1 e3, by rw [priceK_cons, e4, g6], fun g ha hp => ?_⟩
    match g, ha, hp with
    | [], ha, _ => have := ha.len; simp at this
    | b :: g, ha, hp =>
      obtain ⟨a1, a2, a3⟩ := ha.tail hN
      rw [priceK_cons] at hp
      have hacc : Acc l w i s b := ⟨a1, a2, g, by rw [show w.length - (i + 1) = f by omega]; exact a3, hp⟩
      rcases Nat.lt_trichotomy k b with hlt | heq | hgt
      · exact Or.inl hlt
      · subst heq
        exact Or.inr ⟨rfl, e5 g a3 (by omega)⟩
      · exact absurd hacc (g4 b (Nat.zero_le _) hgt)
/-- what Best answers: the least list of least price -/
structure Opt (l : List Pipe) (w : List Wish) (ol : List Nat) (sum : Pr) : Prop where
  asg : Asg (List.replicate (l.length + w.length) false) (l.length + w.length) w.length ol
  key : key sum = priceK (tableP l w) ol
  le : ∀ f, Asg (List.replicate (l.length + w.length) false) (l.length + w.length) w.length f → Iv.key sum ≤ priceK (tableP l w) f
  lex : ∀ f, Asg (List.replicate (l.length + w.length) false) (l.length + w.length) w.length f → priceK (tableP l w) f = Iv.key sum → LexLe ol f
  sm : Sm (60 * CC) sum
theorem best_all (hd : Dat l w) : ∃ ol sum, Opt l w ol sum ∧ bestP l w = some ((ol.map fun n : Nat => (n : Int)).map (finB l.length), sum.b) := by
  obtain ⟨o0, sum0, h1, h2, h3, h4, h5⟩ := assign_all hd
  have hB : BI l w 0 ⟨sum0, List.replicate (l.length + w.length) false, []⟩ := by
    refine ⟨by simp, rfl, List.nodup_nil, by simp, fun c hc => ?_, fun k _ _ => by simp, h4, ⟨o0, h2, h3⟩, h5⟩
    simp only
    rw [show (List.replicate (l.length + w.length) false).getD c false = false by simp [hc]]
    simp
  obtain ⟨sf, e1, su, e2, e3, e4, e5⟩ := bestI_ok hd w.length 0 _ (by omega) hB
  simp only [List.nil_append] at e2
  refine ⟨su, sum0, ⟨e3, e4.symm, h5, fun f hf hp => e5 f hf hp, h4⟩, ?_⟩
  unfold bestP
  rw [h1]
  simp only
  rw [e1]
  simp only
  rw [e2]
end
end Iv
end Go.Proofs.Yteiopfefmphhaaa

set_option autoImplicit false
set_option linter.unusedVariables false
namespace Go.Proofs.Yteiopfefmphhaaa
open Go.Gv
open Go.RowKit
namespace Iv
section
variable {l : List Pipe} {w : List Wish} {ol : List Nat}
theorem step_sk (hol : ol.length = w.length) (hw : 0 < w.length) {x : Wish} {s : Ss} {i : Nat} (hi : i < l.length) (h : Sk l.length w.length s) : Sk l.length w.length (stepS l ol x s i) := by
  unfold stepS
  split
  · exact h
  · rename_i hs
    have hn : ¬ i ∈ s.2 := fun hm => hs (by rw [decide_eq_true hm, Bool.or_true])
    split
    · exact h.fit hi hn
    · rename_i hc
      exact (h.add (by rw [← hol]; exact colOf_lt (by omega) i) hc).fit hi hn
theorem pass_sk (hol : ol.length = w.length) (hw : 0 < w.length) {x : Wish} {s : Ss} (h : Sk l.length w.length s) : ∀ q, q ≤ l.length → Sk l.length w.length (passTo l ol x s q)
  | 0, _ => h
  | q + 1, hq => by rw [passTo_succ]; exact step_sk hol hw (by omega) (pass_sk hol hw h q (by omega))
theorem short_go (hol : ol.length = w.length) : ∀ (f k : Nat) (s : Ss), Sk l.length w.length s → w.length < k + f → ∃ r, shortGo l ol w f k s = some r ∧ Sk l.length w.length r
  | 0, k, s, h, hf => by
    have := h.len1
    rw [shortGo, if_neg (by omega)]
    exact ⟨s, rfl, h⟩
  | f + 1, k, s, h, hf => by
    rw [shortGo]
    split
    · rename_i hk
      have hw : 0 < w.length := by have := h.len1; omega
      exact short_go hol f (k + 1) _ (pass_sk hol hw h l.length (Nat.le_refl _)) (by omega)
    · exact ⟨s, rfl, h⟩
theorem short_all (hd : Dat l w) : ∃ us fs, shortP l w = some (us, fs) := by
  obtain ⟨o0, sum0, h1, h2, h3, h4, h5⟩ := assign_all hd
  obtain ⟨r, h6, _⟩ := short_go (l := l) (w := w) h2.len (w.length + 1) 0 _ (unmet_sk h2.len) (by omega)
  refine ⟨srt r.1, srt r.2, ?_⟩
  unfold shortP
  rw [h1]
  simp only
  rw [if_pos ⟨h2.nd, h2.len⟩, h6]
end
end Iv
end Go.Proofs.Yteiopfefmphhaaa

set_option autoImplicit false
set_option linter.unusedVariables false
namespace Go.Proofs.Yteiopfefmphhaaa
open Go.Gv
open Go.RowKit
namespace Iv
section
variable (l : List Pipe) (w : List Wish) (xs : List Int)
def metBad (i : Nat) : Bool := decide (xs.getD i 0 < 0) || decide ((l.length : Int) ≤ xs.getD i 0) || !fits (l.getD (xs.getD i 0).toNat default) (w.getD i default) || (List.range i).any fun j => decide (xs.getD j 0 = xs.getD i 0)
def metOne (s : Option (Nat × Int)) (i : Nat) : Option (Nat × Int) := match s with
  | none => none
  | some x => if xs.getD i 0 = -1 then some x else if metBad l w xs i then none else some (x.1 + 1, x.2 + cost (l.getD (xs.getD i 0).toNat default) (w.getD i default))
def metTo (q : Nat) : Option (Nat × Int) := (List.range q).foldl (metOne l w xs) (some (0, 0))
def metP : Int × Int := if xs.length = w.length then (match metTo l w xs w.length with
  | none => (-1, 0)
  | some x => ((x.1 : Int), x.2)) else (-1, 0)
end
section
variable {l : List Pipe} {w : List Wish} {xs : List Int}
theorem metTo_succ (q : Nat) : metTo l w xs (q + 1) = metOne l w xs (metTo l w xs q) q := by
  unfold metTo; rw [List.range_succ, List.foldl_append]; rfl
theorem metTo_none {q : Nat} (h : metTo l w xs q = none) : ∀ k, metTo l w xs (q + k) = none
  | 0 => h
  | k + 1 => by rw [← Nat.add_assoc, metTo_succ, metTo_none h k]; rfl
theorem met_no {q : Nat} (hq : q ≤ w.length) (h : metTo l w xs q = none) : metP l w xs = (-1, 0) := by
  unfold metP
  have := metTo_none h (w.length - q)
  rw [show q + (w.length - q) = w.length by omega] at this
  rw [this]; split <;> rfl
theorem get_iv {xs : List Int} {z : Int} {k : Nat} (h : xs[k]? = some z) : (xs.map intV)[k]? = some (intV z) := by rw [List.getElem?_map, h]; rfl
end
end Iv
end Go.Proofs.Yteiopfefmphhaaa

set_option autoImplicit false
set_option linter.unusedVariables false
namespace Go.Proofs.Yteiopfefmphhaaa
open Go.Gv
open Go.RowKit
namespace Iv
section
variable {l : List Pipe} {w : List Wish} {xs : List Int}
theorem repl_false (N c : Nat) : (List.replicate N false).getD c false = false := by
  rw [List.getD_eq_getElem?_getD, List.getElem?_replicate]
  split <;> rfl
theorem tbl_pipe {i k : Nat} (hi : i < w.length) (hk : k < l.length) : tbl (tableP l w) i k = pipeCol (w.getD i default) (l.getD k default) := by
  unfold tbl tableP gp
  rw [show ((List.range w.length).map fun i => rowP l w.length i (w.getD i default)).getD i [] = rowP l w.length i (w.getD i default) by simp [hi]]
  unfold rowP
  rw [List.getD_eq_getElem?_getD, List.getElem?_append_left (by simpa using hk)]
  simp [hk]
def colI (n i : Nat) (z : Int) : Nat := if z = -1 then n + i else z.toNat
def colsI (n : Nat) (xs : List Int) : List Nat := (List.range xs.length).map fun i => colI n i (xs.getD i 0)
theorem colsI_len (n : Nat) (xs : List Int) : (colsI n xs).length = xs.length := by simp [colsI]
theorem colsI_gn {n : Nat} {xs : List Int} {i : Nat} (h : i < xs.length) : gn (colsI n xs) i = colI n i (xs.getD i 0) := by simp [gn, colsI, h]
/-- what Met accepts, place by place -/
def okAt (l : List Pipe) (w : List Wish) (xs : List Int) (i : Nat) : Prop := xs.getD i 0 = -1 ∨ metBad l w xs i = false
theorem metTo_ok : ∀ (q c : Nat) (k : Int), metTo l w xs q = some (c, k) → ∀ i, i < q → okAt l w xs i
  | 0, _, _, _ => fun i h => by omega
  | q + 1, c, k, h => fun i hi => by
    rw [metTo_succ] at h
    cases h1 : metTo l w xs q with
    | none => rw [h1] at h; cases h
    | some x =>
      rw [h1] at h
      by_cases hq : i = q
      · subst hq
        unfold metOne at h
        simp only at h
        by_cases hz : xs.getD i 0 = -1
        · exact .inl hz
        · rw [if_neg hz] at h
          cases hb : metBad l w xs i with
          | true => rw [hb] at h; cases h
          | false => exact .inr hb
      · exact metTo_ok q x.1 x.2 h1 i (by omega)
theorem bad_iff {i : Nat} : metBad l w xs i = false ↔ 0 ≤ xs.getD i 0 ∧ xs.getD i 0 < l.length ∧ fits (l.getD (xs.getD i 0).toNat default) (w.getD i default) = true ∧ ∀ j, j < i → xs.getD j 0 ≠ xs.getD i 0 := by
  unfold metBad
  simp only [Bool.or_eq_false_iff, decide_eq_false_iff_not, Bool.not_eq_false', List.any_eq_false, decide_eq_true_eq, List.mem_range]
  constructor
  · rintro ⟨⟨⟨a, b⟩, c⟩, d⟩; exact ⟨by omega, by omega, c, d⟩
  · rintro ⟨a, b, c, d⟩; exact ⟨⟨⟨by omega, by omega⟩, c⟩, d⟩
theorem metTo_price (hxl : xs.length = w.length) : ∀ (q : Nat), q ≤ w.length → (∀ i, i < q → okAt l w xs i) → ∃ c k, metTo l w xs q = some (c, k) ∧ c ≤ q ∧ sumN (fun r => key (tbl (tableP l w) r (gn (colsI l.length xs) r))) q = ((q : Int) - c) * 1125899906842624 + k
  | 0, _, _ => ⟨0, 0, rfl, Nat.le_refl _, rfl⟩
  | q + 1, hq, h => by
    obtain ⟨c, k, h1, h2, h3⟩ := metTo_price hxl q (by omega) fun i hi => h i (by omega)
    rw [metTo_succ, h1, sumN, h3, colsI_gn (by omega)]
    unfold metOne colI
    simp only
    rcases h q (by omega) with hz | hb
    · rw [if_pos hz, if_pos hz, tbl_dum (by omega) (by omega)]
      refine ⟨c, k, rfl, by omega, ?_⟩
      unfold dumCol
      rw [if_pos rfl]
      have e : key (⟨1, 0⟩ : Pr) = 1125899906842624 := rfl
      rw [e]; omega
    · have hb2 := bad_iff.1 hb
      rw [if_neg (by omega), if_neg (by rw [hb]; decide), if_neg (by omega), tbl_pipe (by omega) (by omega)]
      refine ⟨c + 1, _, rfl, by omega, ?_⟩
      unfold pipeCol
      rw [if_pos hb2.2.2.1]
      unfold key
      simp only
      omega
theorem cols_asg (hxl : xs.length = w.length) (h : ∀ i, i < w.length → okAt l w xs i) : Asg (List.replicate (l.length + w.length) false) (l.length + w.length) w.length (colsI l.length xs) := by
  have hlt : ∀ i, i < w.length → colI l.length i (xs.getD i 0) < l.length + w.length := fun i hi => by
    unfold colI
    rcases h i hi with hz | hb
    · rw [if_pos hz]; omega
    · have hb2 := bad_iff.1 hb
      rw [if_neg (by omega)]; omega
  refine ⟨by rw [colsI_len, hxl], ?_, fun c hc => ?_⟩
  · unfold colsI
    refine List.pairwise_iff_getElem.2 fun i j hi hj hij e => ?_
    simp only [List.length_map, List.length_range] at hi hj
    simp only [List.getElem_map, List.getElem_range] at e
    unfold colI at e
    rcases h i (by omega) with hz | hb
    · rcases h j (by omega) with hz2 | hb2
      · rw [if_pos hz, if_pos hz2] at e; omega
      · have := bad_iff.1 hb2
        rw [if_pos hz, if_neg (by omega)] at e; omega
    · have h1 := bad_iff.1 hb
      rcases h j (by omega) with hz2 | hb2
      · rw [if_neg (by omega), if_pos hz2] at e; omega
      · have h2 := bad_iff.1 hb2
        rw [if_neg (by omega), if_neg (by omega)] at e
        exact h2.2.2.2 i hij (by omega)
  · unfold colsI at hc
    obtain ⟨i, hi, rfl⟩ := List.mem_map.1 hc
    have := hlt i (by have := List.mem_range.1 hi; omega)
    exact ⟨this, repl_false _ _⟩
/-- the columns of Best's list -/
theorem opt_at (hd : Dat l w) {ol : List Nat} {sum : Pr} (h : Opt l w ol sum) {i : Nat} (hi : i < w.length) : (gn ol i < l.length ∧ fits (l.getD (gn ol i) default) (w.getD i default) = true) ∨ gn ol i = l.length + i := by
  have hnv : tbl (tableP l w) i (gn ol i) ≠ never := fun he => by
    have h1 := h.le ((List.range w.length).map fun r => l.length + r) ⟨by simp, List.Pairwise.map _ (fun a b hab e => hab (by omega)) List.nodup_range, fun c hc => by
      obtain ⟨r, hr, rfl⟩ := List.mem_map.1 hc
      have := List.mem_range.1 hr
      exact ⟨by omega, by simp [show l.length + r < l.length + w.length by omega]⟩⟩
    have h2 : priceK (tableP l w) ((List.range w.length).map fun r => l.length + r) = sumN (fun _ => 1125899906842624) w.length := by
      unfold priceK
      rw [List.length_map, List.length_range]
      refine sumN_ext _ fun r hr => ?_
      have e : gn ((List.range w.length).map fun r => l.length + r) r = l.length + r := by simp [gn, hr]
      rw [e, tbl_dum hr hr]
      unfold dumCol
      rw [if_pos rfl]; rfl
    rw [h2, sumN_const, h.key] at h1
    have h3 : key (tbl (tableP l w) i (gn ol i)) ≤ priceK (tableP l w) ol := by
      unfold priceK
      rw [h.asg.len]
      have h4 := sum_all (fun r => if r = i then key (tbl (tableP l w) i (gn ol i)) else 0) w.length [i] (by simp) (by simpa using hi) (fun j _ hn => if_neg (fun e => hn (by rw [e]; simp)))
      have h5 := sumN_le (f := fun r => if r = i then key (tbl (tableP l w) i (gn ol i)) else 0) (g := fun r => key (tbl (tableP l w) r (gn ol r))) w.length fun r _ => by
        split
        · rename_i e; subst e; exact Int.le_refl _
        · obtain ⟨a, b, c, d⟩ := (tableP_ent hd).tbl r (gn ol r)
          unfold key; omega
      rw [h4] at h5
      simpa [sumL] using h5
    rw [he] at h3
    have h6 : key never = 1000 * 1125899906842624 := rfl
    have := hd.wn
    omega
  have hc := h.asg.ok (gn ol i) (List.mem_of_getElem? (gn_mem (by rw [h.asg.len]; exact hi)))
  by_cases hk : gn ol i < l.length
  · rw [tbl_pipe hi hk] at hnv
    unfold pipeCol at hnv
    cases hf : fits (l.getD (gn ol i) default) (w.getD i default) with
    | true => exact .inl ⟨hk, rfl⟩
    | false => rw [hf] at hnv; exact absurd rfl hnv
  · obtain ⟨q, hq⟩ : ∃ q, gn ol i = l.length + q := ⟨gn ol i - l.length, by omega⟩
    rw [hq, tbl_dum hi (by omega)] at hnv
    unfold dumCol at hnv
    by_cases hqi : q = i
    · exact .inr (by omega)
    · rw [if_neg hqi] at hnv; exact absurd rfl hnv
end
end Iv
end Go.Proofs.Yteiopfefmphhaaa

set_option autoImplicit false
set_option linter.unusedVariables false
namespace Go.Proofs.Yteiopfefmphhaaa
open Go.Gv
open Go.RowKit
namespace Iv
section
variable {l : List Pipe} {w : List Wish} {xs : List Int}
def resI (l : List Pipe) (ol : List Nat) : List Int := (ol.map fun n : Nat => (n : Int)).map (finB l.length)
theorem resI_len (ol : List Nat) : (resI l ol).length = ol.length := by simp [resI]
theorem resI_at {ol : List Nat} {i : Nat} (h : i < ol.length) : (resI l ol).getD i 0 = finB l.length (gn ol i : Int) := by simp [resI, gn, h]
theorem res_okAt (hd : Dat l w) {ol : List Nat} {sum : Pr} (h : Opt l w ol sum) {i : Nat} (hi : i < w.length) : okAt l w (resI l ol) i ∧ colI l.length i ((resI l ol).getD i 0) = gn ol i := by
  have hol := h.asg.len
  have hg : ∀ j, j < w.length → (resI l ol).getD j 0 = finB l.length (gn ol j : Int) := fun j hj => resI_at (by omega)
  rcases opt_at hd h hi with ⟨h1, h2⟩ | h1
  · have e : (resI l ol).getD i 0 = (gn ol i : Int) := by rw [hg i hi]; unfold finB; rw [if_neg (by omega)]
    refine ⟨.inr (bad_iff.2 ⟨by omega, by omega, by rw [e, Int.toNat_natCast]; exact h2, fun j hj => ?_⟩), ?_⟩
    · rw [e, hg j (by omega)]
      unfold finB
      split
      · omega
      · intro e2
        have := gn_inj h.asg.nd (j := j) (k := i) (by omega) (by omega) (by omega)
        omega
    · rw [e]; unfold colI; rw [if_neg (by omega)]; simp
  · have e : (resI l ol).getD i 0 = -1 := by rw [hg i hi]; unfold finB; rw [if_pos (by omega)]
    refine ⟨.inl e, ?_⟩
    rw [e]; unfold colI; rw [if_pos rfl, h1]
theorem cols_res (hd : Dat l w) {ol : List Nat} {sum : Pr} (h : Opt l w ol sum) : colsI l.length (resI l ol) = ol := by
  have hol := h.asg.len
  apply List.ext_getElem (by rw [colsI_len, resI_len])
  intro i h1 h2
  have h3 := (res_okAt hd h (i := i) (by omega)).2
  have h4 := colsI_gn (n := l.length) (xs := resI l ol) (i := i) (by rw [resI_len]; omega)
  rw [h3] at h4
  have e1 : gn (colsI l.length (resI l ol)) i = (colsI l.length (resI l ol))[i] := by simp [gn, h1]
  have e2 : gn ol i = ol[i] := by simp [gn, h2]
  rw [← e1, ← e2, h4]
theorem metTo_cost (hd : Dat l w) : ∀ (q c : Nat) (k : Int), q ≤ w.length → metTo l w xs q = some (c, k) → 0 ≤ k ∧ k ≤ q * 12200000 ∧ c ≤ q
  | 0, c, k, _, h => by cases h; exact ⟨Int.le_refl _, by simp, Nat.le_refl _⟩
  | q + 1, c, k, hq, h => by
    have hok := metTo_ok (q + 1) c k h q (by omega)
    rw [metTo_succ] at h
    cases h1 : metTo l w xs q with
    | none => rw [h1] at h; cases h
    | some x =>
      obtain ⟨c1, k1⟩ := x
      obtain ⟨g1, g2, g3⟩ := metTo_cost hd q c1 k1 (by omega) h1
      rw [h1] at h
      unfold metOne at h
      simp only at h
      rcases hok with hz | hb
      · rw [if_pos hz] at h; cases h; exact ⟨g1, by omega, by omega⟩
      · have hb2 := bad_iff.1 hb
        rw [if_neg (by omega), if_neg (by rw [hb]; decide)] at h
        cases h
        have hp := hd.p (l.getD (xs.getD q 0).toNat default) (mem_getD (by omega))
        have hx := hd.w (w.getD q default) (mem_getD (by omega))
        have c1 := cost_le hp hx hb2.2.2.1
        have c2 := cost_nn (l.getD (xs.getD q 0).toNat default) (w.getD q default)
        exact ⟨by omega, by omega, by omega⟩
/-- what Met says of Best's list -/
theorem met_res (hd : Dat l w) {ol : List Nat} {sum : Pr} (h : Opt l w ol sum) : ∃ c : Nat, metP l w (resI l ol) = ((c : Int), sum.b) ∧ c ≤ w.length ∧ key sum = ((w.length : Int) - c) * 1125899906842624 + sum.b ∧ 0 ≤ sum.b ∧ sum.b ≤ 244000000 := by
  have hol := h.asg.len
  have hxl : (resI l ol).length = w.length := by rw [resI_len, hol]
  obtain ⟨c, k, h1, h2, h3⟩ := metTo_price hxl w.length (Nat.le_refl _) fun i hi => (res_okAt hd h hi).1
  obtain ⟨k1, k2, _⟩ := metTo_cost hd w.length c k (Nat.le_refl _) h1
  rw [cols_res hd h] at h3
  have h4 : key sum = priceK (tableP l w) ol := h.key
  unfold priceK at h4
  rw [hol, h3] at h4
  have hw := hd.wn
  obtain ⟨s1, s2, s3, s4⟩ := h.sm
  have hk : k = sum.b := by unfold key at h4; unfold CC at *; omega
  refine ⟨c, ?_, h2, by rw [h4, hk], by omega, by omega⟩
  unfold metP
  rw [if_pos hxl, h1, hk]
/-- whatever list Met accepts is no better -/
theorem met_le (hd : Dat l w) {ol : List Nat} {sum : Pr} (h : Opt l w ol sum) {c c2 : Nat} {k2 : Int} (hc : key sum = ((w.length : Int) - c) * 1125899906842624 + sum.b) (hcw : c ≤ w.length) (hb0 : 0 ≤ sum.b) (hb1 : sum.b ≤ 244000000) (hxl : xs.length = w.length) (hm : metTo l w xs w.length = some (c2, k2)) :
    c2 ≤ c ∧ (c2 = c → sum.b ≤ k2) ∧ (c2 = c → k2 = sum.b → LexLe ol (colsI l.length xs)) := by
  have hok := metTo_ok w.length c2 k2 hm
  have hA := cols_asg hxl hok
  obtain ⟨c', k', h1, h2, h3⟩ := metTo_price hxl w.length (Nat.le_refl _) hok
  rw [hm] at h1
  cases h1
  obtain ⟨g1, g2, g3⟩ := metTo_cost hd w.length c2 k2 (Nat.le_refl _) hm
  have h4 : priceK (tableP l w) (colsI l.length xs) = ((w.length : Int) - c2) * 1125899906842624 + k2 := by
    unfold priceK
    rw [colsI_len, hxl, h3]
  have h5 := h.le _ hA
  rw [h4, hc] at h5
  have hw := hd.wn
  refine ⟨by omega, fun e => by subst e; omega, fun e1 e2 => h.lex _ hA (by rw [h4, hc, e1, e2])⟩
end
end Iv
end Go.Proofs.Yteiopfefmphhaaa
