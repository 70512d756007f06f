import Derived.Test.YtbjijbbkfgcleaaGreatDoorW00
import Derived.Lib.ItoaNum
import Derived.Deep.Slices
import Derived.Deep.Strs
import Derived.SizedLaws
import Derived.Carry
import Derived.ProofKit
import Derived.OpenShut
import Derived.FnData
/- A part of the proof: the plain law. -/
set_option autoImplicit false
set_option linter.unusedSimpArgs false
set_option linter.unusedVariables false
set_option linter.unnecessarySimpa false
namespace Go.Sn
open Go.Gv
/-! # Specifications of organs in plain Lean -/
structure Dv where
  name : ByteArray
  lo : Int
  hi : Int
  deriving Inhabited
structure Rk where
  name : ByteArray
  kind : Int
  num : Int
  den : Int
  low : Int
  count : Int
  deriving Inhabited
structure Pt where
  rank : Int
  shift : Int
  lo : Int
  hi : Int
  deriving Inhabited
structure St where
  name : ByteArray
  div : Int
  num : Int
  den : Int
  pa : Option Addr
  pc : Nat
  ps : List Pt
  deriving Inhabited
structure Cp where
  name : ByteArray
  src : Int
  dst : Int
  shift : Int
  only : Int
  thr : Bool
  deriving Inhabited
structure Org where
  da : Option Addr
  dc : Nat
  ds : List Dv
  ra : Option Addr
  rc : Nat
  rs : List Rk
  sa : Option Addr
  sc : Nat
  ss : List St
  ca : Option Addr
  cc : Nat
  cs : List Cp
def Dv.cells (x : Dv) : List Value := [.string x.name, .int .i64 x.lo, .int .i64 x.hi]
def Rk.cells (x : Rk) : List Value := [.string x.name, .int .i64 x.kind, .int .i64 x.num, .int .i64 x.den, .int .i64 x.low, .int .i64 x.count]
def Pt.cells (x : Pt) : List Value := [.int .i64 x.rank, .int .i64 x.shift, .int .i64 x.lo, .int .i64 x.hi]
def St.cells (x : St) : List Value := [.string x.name, .int .i64 x.div, .int .i64 x.num, .int .i64 x.den, .slice x.pa x.ps.length x.pc]
def Cp.cells (x : Cp) : List Value := [.string x.name, .int .i64 x.src, .int .i64 x.dst, .int .i64 x.shift, .int .i64 x.only, .bool x.thr]
def Org.cells (s : Org) : List Value := [.slice s.da s.ds.length s.dc, .slice s.ra s.rs.length s.rc, .slice s.sa s.ss.length s.sc, .slice s.ca s.cs.length s.cc]
abbrev Dv.val (x : Dv) : Value := .agg #[.string x.name, .int .i64 x.lo, .int .i64 x.hi]
abbrev Rk.val (x : Rk) : Value := .agg #[.string x.name, .int .i64 x.kind, .int .i64 x.num, .int .i64 x.den, .int .i64 x.low, .int .i64 x.count]
abbrev Pt.val (x : Pt) : Value := .agg #[.int .i64 x.rank, .int .i64 x.shift, .int .i64 x.lo, .int .i64 x.hi]
abbrev St.val (x : St) : Value := .agg #[.string x.name, .int .i64 x.div, .int .i64 x.num, .int .i64 x.den, .slice x.pa x.ps.length x.pc]
abbrev Cp.val (x : Cp) : Value := .agg #[.string x.name, .int .i64 x.src, .int .i64 x.dst, .int .i64 x.shift, .int .i64 x.only, .bool x.thr]
abbrev Org.val (s : Org) : Value := .agg #[.slice s.da s.ds.length s.dc, .slice s.ra s.rs.length s.rc, .slice s.sa s.ss.length s.sc, .slice s.ca s.cs.length s.cc]
/-- a specification in memory -/
structure OrgIn (s : Org) (w : World) (S : List Nat) : Prop where
  d : OldSl w S s.da s.ds.length 3 (s.ds.flatMap Dv.cells)
  r : OldSl w S s.ra s.rs.length 6 (s.rs.flatMap Rk.cells)
  t : OldSl w S s.sa s.ss.length 5 (s.ss.flatMap St.cells)
  c : OldSl w S s.ca s.cs.length 6 (s.cs.flatMap Cp.cells)
  p : ∀ x ∈ s.ss, OldSl w S x.pa x.ps.length 4 (x.ps.flatMap Pt.cells)
/-- sizes -/
structure OrgLe (s : Org) : Prop where
  d : s.ds.length ≤ 140737488355328
  r : s.rs.length ≤ 140737488355328
  t : s.ss.length ≤ 140737488355328
  c : s.cs.length ≤ 140737488355328
  p : ∀ x ∈ s.ss, x.ps.length ≤ 140737488355328
  pc : ∀ x ∈ s.ss, x.ps.length ≤ x.pc
  dn : ∀ x ∈ s.ds, x.name.size ≤ 140737488355328
  rn : ∀ x ∈ s.rs, x.name.size ≤ 140737488355328
  tn : ∀ x ∈ s.ss, x.name.size ≤ 140737488355328
  cn : ∀ x ∈ s.cs, x.name.size ≤ 140737488355328
theorem OrgIn.at {s : Org} {w0 w : World} {S : List Nat} {l : List HL} (h : OrgIn s w0 S) (ho : Own w0 S w l) : OrgIn s w [] := ⟨h.d.at ho, h.r.at ho, h.t.at ho, h.c.at ho, fun x hx => (h.p x hx).at ho⟩
theorem OrgIn.atS {s : Org} {w0 w : World} {S Sc : List Nat} {l : List HL} (h : OrgIn s w0 S) (ho : Own w0 S w l) (hlt : ∀ b ∈ Sc, w0.heap.size ≤ b) : OrgIn s w Sc := ⟨h.d.atS ho (by decide) hlt, h.r.atS ho (by decide) hlt, h.t.atS ho (by decide) hlt, h.c.atS ho (by decide) hlt, fun x hx => (h.p x hx).atS ho (by decide) hlt⟩
/-! ## names -/
def letterB (c : Nat) : Bool := (decide (97 ≤ c) && decide (c ≤ 122)) || (decide (65 ≤ c) && decide (c ≤ 90))
def digitB (c : Nat) : Bool := decide (48 ≤ c) && decide (c ≤ 57)
def byteAt (s : ByteArray) (i : Nat) : Nat := (s.data.getD i 0).toNat
def okAt (s : ByteArray) (i : Nat) : Bool := letterB (byteAt s i) || (decide (i ≠ 0) && (decide (byteAt s i = 95) || digitB (byteAt s i)))
def nameB (s : ByteArray) : Bool := (decide (1 ≤ s.size) && decide (s.size ≤ 16)) && (List.range s.size).all (okAt s)
set_option maxRecDepth 100000 in
theorem letterB_or : ∀ c : Fin 256, (decide (97 ≤ c.val ||| 32) && decide (c.val ||| 32 ≤ 122)) = letterB c.val := by decide
theorem byteAt_lt (s : ByteArray) (i : Nat) : byteAt s i < 256 := UInt8.toNat_lt _
theorem byteAt_get (s : ByteArray) (i : Nat) (h : i < s.size) : s[i]? = some (s.data.getD i 0) := by
  have : i < s.data.size := h
  simp [getElem?_def, h, Array.getD_eq_getD_getElem?, ByteArray.getElem_eq_getElem_data]
theorem nameB_no {s : ByteArray} {i : Nat} (h : i < s.size) (hb : okAt s i = false) : nameB s = false := by
  unfold nameB
  have : (List.range s.size).all (okAt s) = false := by
    rw [List.all_eq_false]
    exact ⟨i, List.mem_range.2 h, by simp [hb]⟩
  simp [this]
theorem nameB_all {s : ByteArray} (h : ∀ i, i < s.size → okAt s i = true) : nameB s = (decide (1 ≤ s.size) && decide (s.size ≤ 16)) := by
  unfold nameB
  have : (List.range s.size).all (okAt s) = true := by
    rw [List.all_eq_true]; intro i hi; exact h i (List.mem_range.1 hi)
  simp [this]
theorem nameB_le {s : ByteArray} (h : nameB s = true) : 1 ≤ s.size ∧ s.size ≤ 16 := by
  unfold nameB at h
  simp only [Bool.and_eq_true, decide_eq_true_eq] at h
  exact h.1
/-! ## footages -/
def feetB (num den : Int) : Bool := decide (1 ≤ den) && decide (den ≤ 15) && decide (1 ≤ num) && decide (num ≤ 64 * den) && decide (Nat.gcd num.toNat den.toNat = 1)
/-! ## the first of some -/
def firstO {β : Type} (g : Nat → Option β) : Nat → Nat → Option (Nat × β)
  | 0, _ => none
  | n + 1, i => match g i with
    | some b => some (i, b)
    | none => firstO g n (i + 1)
theorem firstO_stop {β : Type} (g : Nat → Option β) (b : β) : ∀ (n i k : Nat), i ≤ k → k < i + n → (∀ j, i ≤ j → j < k → g j = none) → g k = some b → firstO g n i = some (k, b)
  | 0, i, k, h1, h2, _, _ => by omega
  | n + 1, i, k, h1, h2, h3, h4 => by
    by_cases e : i = k
    · subst e; simp [firstO, h4]
    · have h5 := h3 i (Nat.le_refl _) (by omega)
      simp only [firstO, h5]
      exact firstO_stop g b n (i + 1) k (by omega) (by omega) (fun j h6 h7 => h3 j (by omega) h7) h4
theorem firstO_none {β : Type} (g : Nat → Option β) : ∀ (n i : Nat), (∀ j, i ≤ j → j < i + n → g j = none) → firstO g n i = none
  | 0, _, _ => rfl
  | n + 1, i, h => by
    have h5 := h i (Nat.le_refl _) (by omega)
    simp only [firstO, h5]
    exact firstO_none g n (i + 1) fun j h6 h7 => h j (by omega) (by omega)
theorem firstO_none_iff {β : Type} {g : Nat → Option β} : ∀ {n i : Nat}, firstO g n i = none → ∀ j, i ≤ j → j < i + n → g j = none
  | 0, i, _, j, h1, h2 => by omega
  | n + 1, i, h, j, h1, h2 => by
    cases hg : g i with
    | some b => simp [firstO, hg] at h
    | none =>
      simp only [firstO, hg] at h
      by_cases e : i = j
      · subst e; exact hg
      · exact firstO_none_iff h j (by omega) (by omega)
theorem firstO_some {β : Type} {g : Nat → Option β} : ∀ {n i k : Nat} {b : β}, firstO g n i = some (k, b) → i ≤ k ∧ k < i + n ∧ g k = some b ∧ ∀ j, i ≤ j → j < k → g j = none
  | 0, i, k, b, h => by simp [firstO] at h
  | n + 1, i, k, b, h => by
    cases hg : g i with
    | some c =>
      simp only [firstO, hg, Option.some.injEq, Prod.mk.injEq] at h
      obtain ⟨rfl, rfl⟩ := h
      exact ⟨Nat.le_refl _, by omega, hg, fun j h1 h2 => by omega⟩
    | none =>
      simp only [firstO, hg] at h
      obtain ⟨h1, h2, h3, h4⟩ := firstO_some h
      refine ⟨by omega, by omega, h3, fun j h5 h6 => ?_⟩
      by_cases e : i = j
      · subst e; exact hg
      · exact h4 j (by omega) h6
/-- an earlier one with the same name -/
def twice (names : Nat → ByteArray) (i : Nat) : Bool := (List.range i).any fun k => decide (names k = names i)
theorem twice_yes {names : Nat → ByteArray} {i k : Nat} (h : k < i) (he : names k = names i) : twice names i = true := by
  unfold twice; rw [List.any_eq_true]; exact ⟨k, List.mem_range.2 h, by simp [he]⟩
theorem twice_no {names : Nat → ByteArray} {i : Nat} (h : ∀ k, k < i → names k ≠ names i) : twice names i = false := by
  unfold twice; rw [List.any_eq_false]; intro k hk; simp [h k (List.mem_range.1 hk)]
def dvBad (d : Dv) : Bool := !(decide (0 ≤ d.lo) && decide (d.lo ≤ 127) && decide (d.lo ≤ d.hi) && decide (d.hi ≤ 127) && decide (d.hi ≤ d.lo + 60))
def dvN (l : List Dv) (k : Nat) : ByteArray := (l.getD k default).name
def rkN (l : List Rk) (k : Nat) : ByteArray := (l.getD k default).name
def cpN (l : List Cp) (k : Nat) : ByteArray := (l.getD k default).name
def dvErr (l : List Dv) (i : Nat) : Int := if nameB (dvN l i) = false then 6 else if twice (dvN l) i then 8 else if dvBad (l.getD i default) then 7 else 0
def rkArg (r : Rk) : Bool := !(decide (1 ≤ r.kind) && decide (r.kind ≤ 4) && feetB r.num r.den)
def rkBad (r : Rk) : Bool := !(decide (1 ≤ r.count) && decide (r.count ≤ 97) && decide (0 ≤ r.low) && decide (r.low ≤ 128 - r.count))
def rkErr (l : List Rk) (i : Nat) : Int := if nameB (rkN l i) = false then 6 else if twice (rkN l) i then 8 else if rkArg (l.getD i default) then 2 else if rkBad (l.getD i default) then 7 else 0
def stTwice (l : List St) (i : Nat) : Bool := (List.range i).any fun k => decide ((l.getD k default).div = (l.getD i default).div) && decide ((l.getD k default).name = (l.getD i default).name)
def idxB (i : Int) (n : Nat) : Bool := decide (0 ≤ i) && decide (i < n)
def stErr (nd : Nat) (l : List St) (i : Nat) : Int :=
  let x := l.getD i default
  if nameB x.name = false then 6 else if idxB x.div nd = false then 4 else if stTwice l i then 8 else if (!feetB x.num x.den || decide (x.ps.length = 0)) then 2 else if decide (12 < x.ps.length) then 3 else 0
def ptRange (d : Dv) (p : Pt) : Bool := decide (d.lo ≤ p.lo) && decide (p.lo ≤ p.hi) && decide (p.hi ≤ d.hi) && decide (-96 ≤ p.shift) && decide (p.shift ≤ 96)
def ptHas (r : Rk) (p : Pt) : Bool := decide (r.low ≤ p.lo + p.shift) && decide (p.hi + p.shift < r.low + r.count)
def ptErr (rs : List Rk) (d : Dv) (p : Pt) : Int := if idxB p.rank rs.length = false then 4 else if ptRange d p = false then 7 else if ptHas (rs.getD p.rank.toNat default) p = false then 4 else 0
def cpArg (c : Cp) : Bool := !((decide (c.shift = -12) || decide (c.shift = 12) || (decide (c.shift = 0) && decide (c.src ≠ c.dst))) && (decide (0 ≤ c.only) && decide (c.only ≤ 2)) && !(c.thr && decide (c.only ≠ 0)))
def cpErr (nd : Nat) (l : List Cp) (i : Nat) : Int :=
  let x := l.getD i default
  if nameB (cpN l i) = false then 6 else if twice (cpN l) i then 8 else if (!idxB x.src nd || !idxB x.dst nd) then 4 else if cpArg x then 2 else 0
def errO (e : Int) : Option (Nat × Int) := if e = 0 then none else some (0, e)
def stO (s : Org) (i : Nat) : Option (Nat × Int) :=
  if stErr s.ds.length s.ss i ≠ 0 then some (0, stErr s.ds.length s.ss i)
  else match firstO (fun k => let e := ptErr s.rs (s.ds.getD ((s.ss.getD i default).div).toNat default) ((s.ss.getD i default).ps.getD k default); if e = 0 then none else some e) (s.ss.getD i default).ps.length 0 with
    | some (k, e) => some (k + 1, e)
    | none => none
structure Fault where
  what : Nat
  index : Nat
  part : Nat
def Fault.val (f : Fault) : Value := .agg #[.int .i64 (f.what : Int), .int .i64 (f.index : Int), .int .i64 (f.part : Int)]
def longB (s : Org) : Bool := decide (6 < s.ds.length) || decide (40 < s.rs.length) || decide (80 < s.ss.length) || decide (24 < s.cs.length)
def checkP (s : Org) : Fault × Int :=
  if longB s then (⟨0, 0, 0⟩, 3) else
  match firstO (fun i => errO (dvErr s.ds i)) s.ds.length 0 with
  | some (i, k, e) => (⟨1, i, k⟩, e)
  | none => match firstO (fun i => errO (rkErr s.rs i)) s.rs.length 0 with
    | some (i, k, e) => (⟨2, i, k⟩, e)
    | none => match firstO (stO s) s.ss.length 0 with
      | some (i, k, e) => (⟨3, i, k⟩, e)
      | none => match firstO (fun i => errO (cpErr s.ds.length s.cs i)) s.cs.length 0 with
        | some (i, k, e) => (⟨4, i, k⟩, e)
        | none => (⟨0, 0, 0⟩, 0)
end Go.Sn
namespace Go.Sn
/-! # What acts: chains of couplers -/
abbrev Pl := Nat × Nat
/-- is a list less than another one that is as long -/
def lessB : List Nat → List Nat → Bool
  | a :: as, b :: bs => if a = b then lessB as bs else decide (a < b)
  | _, _ => false
theorem lessB_irrefl : ∀ a : List Nat, lessB a a = false
  | [] => rfl
  | a :: as => by simp [lessB, lessB_irrefl as]
theorem lessB_asymm : ∀ {a b : List Nat}, lessB a b = true → lessB b a = false
  | [], _, h => by simp [lessB] at h
  | _ :: _, [], h => by simp [lessB] at h
  | a :: as, b :: bs, h => by
    simp only [lessB] at h ⊢
    by_cases e : a = b
    · subst e; simp only [if_true] at h ⊢; exact lessB_asymm h
    · have e2 : ¬ b = a := fun h => e h.symm
      simp only [e, e2, if_false, decide_eq_true_eq, decide_eq_false_iff_not] at h ⊢; omega
theorem lessB_trans : ∀ {a b c : List Nat}, lessB a b = true → lessB b c = true → lessB a c = true
  | [], _, _, h, _ => by simp [lessB] at h
  | _ :: _, [], _, h, _ => by simp [lessB] at h
  | _ :: _, _ :: _, [], _, h => by simp [lessB] at h
  | a :: as, b :: bs, c :: cs, h, h2 => by
    simp only [lessB] at h h2 ⊢
    by_cases e : a = b
    · subst e
      simp only [if_true] at h
      by_cases e2 : a = c
      · subst e2; simp only [if_true] at h2 ⊢; exact lessB_trans h h2
      · simp only [e2, if_false] at h2 ⊢; exact h2
    · simp only [e, if_false, decide_eq_true_eq] at h
      by_cases e2 : b = c
      · subst e2; simp only [e, if_false, decide_eq_true_eq]; exact h
      · simp only [e2, if_false, decide_eq_true_eq] at h2
        have : ¬ a = c := by omega
        simp only [this, if_false, decide_eq_true_eq]; omega
theorem lessB_total : ∀ {a b : List Nat}, a.length = b.length → lessB a b = false → lessB b a = false → a = b
  | [], [], _, _, _ => rfl
  | [], _ :: _, h, _, _ => by simp at h
  | _ :: _, [], h, _, _ => by simp at h
  | a :: as, b :: bs, h, h1, h2 => by
    simp only [lessB] at h1 h2
    by_cases e : a = b
    · subst e
      simp only [if_true] at h1 h2
      rw [lessB_total (by simpa using h) h1 h2]
    · have e2 : ¬ b = a := fun h => e h.symm
      simp only [e, e2, if_false, decide_eq_false_iff_not] at h1 h2; omega
theorem lessB_snoc : ∀ {a b : List Nat} (i j : Nat), a.length = b.length → lessB (a ++ [i]) (b ++ [j]) = (lessB a b || (decide (a = b) && decide (i < j)))
  | [], [], i, j, _ => by
    by_cases e : i = j
    · subst e; simp [lessB]
    · simp [lessB, e]
  | [], _ :: _, _, _, h => by simp at h
  | _ :: _, [], _, _, h => by simp at h
  | a :: as, b :: bs, i, j, h => by
    have ih := lessB_snoc (a := as) (b := bs) i j (by simpa using h)
    simp only [List.cons_append, lessB]
    by_cases e : a = b
    · subst e; simp [ih]
    · simp [e]
/-- not less is a total preorder on lists of one length -/
theorem geB_trans {a b c : List Nat} (hab : a.length = b.length) (hbc : b.length = c.length) (h1 : lessB a b = false) (h2 : lessB b c = false) : lessB a c = false := by
  cases h : lessB a c with
  | false => rfl
  | true =>
    cases h3 : lessB c b with
    | true => rw [lessB_trans h h3] at h1; cases h1
    | false =>
      have := lessB_total hbc h2 h3
      subst this
      rw [h] at h1; cases h1
structure Cx where
  ds : List Dv
  cs : List Cp
  ks : List (List Nat)
  dr : List Nat
def Cx.cp (A : Cx) (i : Nat) : Cp := A.cs.getD i default
def Cx.dv (A : Cx) (d : Nat) : Dv := A.ds.getD d default
def Cx.kd (A : Cx) (d : Nat) : List Nat := A.ks.getD d []
def Cx.tgt (A : Cx) (i : Nat) (p : Pl) : Option Pl :=
  if (A.dv (A.cp i).dst.toNat).lo ≤ (p.2 : Int) + (A.cp i).shift ∧ (p.2 : Int) + (A.cp i).shift ≤ (A.dv (A.cp i).dst.toNat).hi then some ((A.cp i).dst.toNat, ((p.2 : Int) + (A.cp i).shift).toNat) else none
def takenL (c : Cp) (l : List Nat) : List Nat := if l.length = 0 ∨ c.only = 0 then l else if c.only = 1 then l.take 1 else l.drop (l.length - 1)
def Cx.start (A : Cx) (i : Nat) : List Pl := (takenL (A.cp i) (A.kd (A.cp i).src.toNat)).map fun k => ((A.cp i).src.toNat, k)
def Cx.goes (A : Cx) (i : Nat) (q : Pl) : Bool := (A.cp i).thr && decide ((A.cp i).src.toNat = q.1)
def Cx.nx (A : Cx) (cs : List Nat) (q : Pl) (i : Nat) : Bool := if cs = [] then decide (q ∈ A.start i) else A.goes i q
structure Cx.Ok (A : Cx) : Prop where
  nd : A.ds.length ≤ 6
  nk : A.ks.length = A.ds.length
  rng : ∀ d, d < A.ds.length → 0 ≤ (A.dv d).lo ∧ (A.dv d).lo ≤ (A.dv d).hi ∧ (A.dv d).hi ≤ 127
  key : ∀ d, ∀ k ∈ A.kd d, (A.dv d).lo ≤ (k : Int) ∧ (k : Int) ≤ (A.dv d).hi
  asc : ∀ d, (A.kd d).Pairwise (· < ·)
  dra : A.dr.Pairwise (· < ·)
  drn : ∀ i ∈ A.dr, i < A.cs.length
  src : ∀ i, i < A.cs.length → 0 ≤ (A.cp i).src ∧ (A.cp i).src < A.ds.length
  dst : ∀ i, i < A.cs.length → 0 ≤ (A.cp i).dst ∧ (A.cp i).dst < A.ds.length
  shf : ∀ i, i < A.cs.length → -12 ≤ (A.cp i).shift ∧ (A.cp i).shift ≤ 12
  thr : ∀ i, (A.cp i).thr = true → (A.cp i).only = 0
theorem takenL_sub {c : Cp} {l : List Nat} {k : Nat} (h : k ∈ takenL c l) : k ∈ l := by
  unfold takenL at h
  split at h
  · exact h
  · split at h
    · exact List.mem_of_mem_take h
    · exact List.mem_of_mem_drop h
inductive Path (A : Cx) : Pl → List Nat → Pl → Prop
  | played {p : Pl} : p.2 ∈ A.kd p.1 → Path A p [] p
  | step {p q q' : Pl} {i : Nat} {cs : List Nat} : Path A p cs q → i ∈ A.dr → A.nx cs q i = true → A.tgt i q = some q' → Path A p (cs ++ [i]) q'
def Best (A : Cx) (p : Pl) (cs : List Nat) (q : Pl) : Prop := Path A p cs q ∧ ∀ p' cs', Path A p' cs' q → cs.length < cs'.length ∨ (cs.length = cs'.length ∧ lessB cs' cs = false)
section
variable {A : Cx}
theorem Path.nil {p q : Pl} {cs : List Nat} (h : Path A p cs q) (e : cs = []) : p = q ∧ q.2 ∈ A.kd q.1 := by
  cases h with
  | played h => exact ⟨rfl, h⟩
  | step _ _ _ _ => simp at e
theorem Path.snoc {p q' : Pl} {cs : List Nat} {i : Nat} {cs0 : List Nat} (h : Path A p cs0 q') (e : cs0 = cs ++ [i]) : ∃ q, Path A p cs q ∧ i ∈ A.dr ∧ A.nx cs q i = true ∧ A.tgt i q = some q' := by
  cases h with
  | played h => simp at e
  | step h1 h2 h3 h4 =>
    obtain ⟨e1, e2⟩ := List.append_inj' e rfl
    simp only [List.cons.injEq, and_true] at e2
    subst e1; subst e2
    exact ⟨_, h1, h2, h3, h4⟩
theorem Cx.start_mem {i : Nat} {q : Pl} (h : q ∈ A.start i) : q.1 = (A.cp i).src.toNat ∧ q.2 ∈ A.kd q.1 := by
  unfold Cx.start at h
  obtain ⟨k, hk, rfl⟩ := List.mem_map.1 h
  exact ⟨rfl, takenL_sub hk⟩
theorem Cx.nx_src {cs : List Nat} {q : Pl} {i : Nat} (h : A.nx cs q i = true) : q.1 = (A.cp i).src.toNat := by
  unfold Cx.nx at h
  split at h
  · exact (Cx.start_mem (of_decide_eq_true h)).1
  · simp only [Cx.goes, Bool.and_eq_true, decide_eq_true_eq] at h; exact h.2.symm
theorem Cx.tgt_key {i : Nat} {q q' : Pl} (hA : A.Ok) (hi : i ∈ A.dr) (h : A.tgt i q = some q') : (q'.2 : Int) = q.2 + (A.cp i).shift ∧ q'.1 = (A.cp i).dst.toNat ∧ q'.1 < A.ds.length ∧ (A.dv q'.1).lo ≤ q'.2 ∧ (q'.2 : Int) ≤ (A.dv q'.1).hi := by
  unfold Cx.tgt at h
  split at h
  · rename_i h1
    cases h
    have h2 := hA.dst i (hA.drn i hi)
    have h4 := hA.rng (A.cp i).dst.toNat (by omega)
    refine ⟨by simp only; omega, rfl, by simp only; omega, by simp only; omega, by simp only; omega⟩
  · cases h
theorem Path.uniq (hA : A.Ok) {cs : List Nat} : ∀ (n : Nat) (p p' q : Pl) (cs : List Nat), cs.length = n → Path A p cs q → Path A p' cs q → p = p'
  | 0, p, p', q, cs, hn, h, h' => by
    have e : cs = [] := List.length_eq_zero_iff.1 hn
    rw [(h.nil e).1, (h'.nil e).1]
  | n + 1, p, p', q, cs, hn, h, h' => by
    have hne : cs ≠ [] := fun e => by simp [e] at hn
    have e := (List.dropLast_concat_getLast hne).symm
    obtain ⟨q1, a1, a2, a3, a4⟩ := h.snoc e
    obtain ⟨q2, b1, b2, b3, b4⟩ := h'.snoc e
    have k1 := Cx.tgt_key hA a2 a4
    have k2 := Cx.tgt_key hA b2 b4
    have s1 := Cx.nx_src a3
    have s2 := Cx.nx_src b3
    have : q1 = q2 := Prod.ext (by rw [s1, s2]) (by have := k1.1; have := k2.1; omega)
    subst this
    exact Path.uniq hA (cs := []) n p p' q1 _ (by simp [hn]) a1 b1
theorem Best.uniq (hA : A.Ok) {p p' q : Pl} {cs cs' : List Nat} (h : Best A p cs q) (h' : Best A p' cs' q) : p = p' ∧ cs = cs' := by
  have h1 := h.2 _ _ h'.1
  have h2 := h'.2 _ _ h.1
  have hl : cs.length = cs'.length := by omega
  have e : cs = cs' := lessB_total hl (by rcases h2 with h2 | h2; omega; exact h2.2) (by rcases h1 with h1 | h1; omega; exact h1.2)
  subst e
  exact ⟨Path.uniq hA (cs := []) _ _ _ _ _ rfl h.1 h'.1, rfl⟩
/-- a shorter chain to a place goes on as a longer one does -/
theorem Cx.nx_less (hA : A.Ok) {cs cs2 : List Nat} {p2 q : Pl} {i : Nat} (h : A.nx cs q i = true) (h2 : Path A p2 cs2 q) (hl : cs2.length ≤ cs.length) : A.nx cs2 q i = true := by
  unfold Cx.nx at h ⊢
  by_cases e : cs = []
  · subst e
    have : cs2 = [] := List.length_eq_zero_iff.1 (by simpa using hl)
    subst this
    exact h
  · simp only [e, if_false] at h
    by_cases e2 : cs2 = []
    · subst e2
      simp only [if_true, decide_eq_true_eq]
      simp only [Cx.goes, Bool.and_eq_true, decide_eq_true_eq] at h
      have := (h2.nil rfl).2
      unfold Cx.start takenL
      rw [if_pos (.inr (hA.thr i h.1))]
      refine List.mem_map.2 ⟨q.2, by rw [h.2]; exact this, ?_⟩
      rw [h.2]
    · simp only [e2, if_false]; exact h
abbrev Tab := Pl → Option (Pl × List Nat)
structure TabOk (A : Cx) (n : Nat) (T : Tab) : Prop where
  best : ∀ q v, T q = some v → Best A v.1 v.2 q ∧ v.2.length ≤ n
  all : ∀ p cs q, Path A p cs q → cs.length ≤ n → ∃ v, T q = some v
def addT (T : Tab) (q' : Pl) (v : Pl × List Nat) : Tab := fun q => if q = q' then (match T q' with
  | none => some v
  | some old => if old.2.length = v.2.length ∧ lessB v.2 old.2 = true then some v else some old) else T q
structure Proc (A : Cx) (n : Nat) (T0 T : Tab) (done : Pl → Nat → Prop) : Prop where
  keep : ∀ q v, T0 q = some v → T q = some v
  new : ∀ q' v, T q' = some v → T0 q' = some v ∨ (T0 q' = none ∧ ∃ q i v0, T0 q = some v0 ∧ v0.2.length = n ∧ i ∈ A.dr ∧ A.nx v0.2 q i = true ∧ A.tgt i q = some q' ∧ v = (v0.1, v0.2 ++ [i]))
  all : ∀ q i v0 q', done q i → T0 q = some v0 → v0.2.length = n → i ∈ A.dr → A.nx v0.2 q i = true → A.tgt i q = some q' → ∃ v, T q' = some v ∧ (T0 q' = none → lessB (v0.2 ++ [i]) v.2 = false)
theorem Proc.init {n : Nat} {T0 : Tab} : Proc A n T0 T0 (fun _ _ => False) := ⟨fun _ _ h => h, fun _ _ h => .inl h, fun _ _ _ _ h => h.elim⟩
theorem Proc.weak {n : Nat} {T0 T : Tab} {done done' : Pl → Nat → Prop} (h : Proc A n T0 T done) (hd : ∀ q i v0 q', done' q i → T0 q = some v0 → v0.2.length = n → i ∈ A.dr → A.nx v0.2 q i = true → A.tgt i q = some q' → done q i) : Proc A n T0 T done' :=
  ⟨h.keep, h.new, fun q i v0 q' a b c d e f => h.all q i v0 q' (hd q i v0 q' a b c d e f) b c d e f⟩
theorem Proc.len {n : Nat} {T0 T : Tab} {done : Pl → Nat → Prop} (h : Proc A n T0 T done) {q : Pl} {v : Pl × List Nat} (h0 : T0 q = none) (hv : T q = some v) : v.2.length = n + 1 := by
  rcases h.new q v hv with h1 | ⟨_, q1, i, v0, _, h2, _, _, _, rfl⟩
  · rw [h0] at h1; cases h1
  · simp [h2]
theorem Proc.add {n : Nat} {T0 T : Tab} {done : Pl → Nat → Prop} (h : Proc A n T0 T done) (h0 : TabOk A n T0) {q q' : Pl} {i : Nat} {v0 : Pl × List Nat} (hq : T0 q = some v0) (hn : v0.2.length = n) (hi : i ∈ A.dr) (hx : A.nx v0.2 q i = true) (ht : A.tgt i q = some q') :
    Proc A n T0 (addT T q' (v0.1, v0.2 ++ [i])) (fun a b => done a b ∨ (a = q ∧ b = i)) := by
  refine ⟨fun a v ha => ?_, fun a v ha => ?_, fun a b u0 a' hd hu hun hb hbx hbt => ?_⟩
  · have h1 := h.keep a v ha
    unfold addT
    split
    · rename_i e
      subst e
      rw [h1]
      have h2 := (h0.best a v ha).2
      simp only
      rw [if_neg]
      rintro ⟨h3, _⟩
      simp [hn] at h3
      omega
    · exact h1
  · unfold addT at ha
    split at ha
    · rename_i e
      subst e
      have hput : ∀ u, T a = none ∨ (∃ old, T a = some old ∧ old.2.length = n + 1) → some (v0.1, v0.2 ++ [i]) = some u → T0 a = some u ∨ (T0 a = none ∧ ∃ q i v0, T0 q = some v0 ∧ v0.2.length = n ∧ i ∈ A.dr ∧ A.nx v0.2 q i = true ∧ A.tgt i q = some a ∧ u = (v0.1, v0.2 ++ [i])) := by
        intro u hT hu
        refine .inr ⟨?_, q, i, v0, hq, hn, hi, hx, ht, (Option.some.inj hu).symm⟩
        cases h4 : T0 a with
        | none => rfl
        | some z =>
          have h5 := h.keep a z h4
          have h6 := (h0.best a z h4).2
          rcases hT with hT | ⟨old, hT, hl⟩
          · rw [h5] at hT; cases hT
          · rw [h5] at hT; cases hT; omega
      cases hT : T a with
      | none => rw [hT] at ha; exact hput v (.inl hT) ha
      | some old =>
        rw [hT] at ha
        simp only at ha
        split at ha
        · rename_i h3
          exact hput v (.inr ⟨old, hT, by simpa [hn] using h3.1⟩) ha
        · rw [← hT] at ha; exact h.new a v ha
    · exact h.new a v ha
  · have hbase : ∀ u, T a' = some u → (T0 a' = none → lessB (u0.2 ++ [b]) u.2 = false) → ∃ v, addT T q' (v0.1, v0.2 ++ [i]) a' = some v ∧ (T0 a' = none → lessB (u0.2 ++ [b]) v.2 = false) := by
      intro u hu1 hu2
      unfold addT
      split
      · rename_i e
        subst e
        rw [hu1]
        simp only
        split
        · rename_i h3
          refine ⟨_, rfl, fun hno => ?_⟩
          have hl := h.len hno hu1
          have h4 := hu2 hno
          -- new < u ≤ cand
          exact geB_trans (b := u.2) (by simp [hl, hun]) (by rw [h3.1]) h4 (lessB_asymm h3.2)
        · exact ⟨u, rfl, hu2⟩
      · exact ⟨u, hu1, hu2⟩
    rcases hd with hd | ⟨rfl, rfl⟩
    · obtain ⟨u, hu1, hu2⟩ := h.all a b u0 a' hd hu hun hb hbx hbt
      exact hbase u hu1 hu2
    · rw [hu] at hq; cases hq
      rw [hbt] at ht; cases ht
      cases hT : T q' with
      | none =>
        refine ⟨(v0.1, v0.2 ++ [b]), ?_, fun _ => lessB_irrefl _⟩
        unfold addT; rw [if_pos rfl, hT]
      | some old =>
        by_cases h3 : old.2.length = (v0.2 ++ [b]).length ∧ lessB (v0.2 ++ [b]) old.2 = true
        · refine ⟨(v0.1, v0.2 ++ [b]), ?_, fun _ => lessB_irrefl _⟩
          unfold addT; rw [if_pos rfl, hT]; simp only; rw [if_pos h3]
        · refine ⟨old, ?_, fun hno => ?_⟩
          · unfold addT; rw [if_pos rfl, hT]; simp only; rw [if_neg h3]
          have hl := h.len hno hT
          have h4 : old.2.length = (v0.2 ++ [b]).length := by simp [hl, hn]
          cases h5 : lessB (v0.2 ++ [b]) old.2 with
          | false => rfl
          | true => exact absurd ⟨h4, h5⟩ h3
theorem Proc.skip {n : Nat} {T0 T : Tab} {done : Pl → Nat → Prop} (h : Proc A n T0 T done) {q : Pl} {i : Nat} (ht : A.tgt i q = none) : Proc A n T0 T (fun a b => done a b ∨ (a = q ∧ b = i)) :=
  h.weak fun a b v0 a' hd _ _ _ _ hbt => by
    rcases hd with hd | ⟨rfl, rfl⟩
    · exact hd
    · rw [ht] at hbt; cases hbt
theorem Proc.finish (hA : A.Ok) {n : Nat} {T0 T : Tab} {done : Pl → Nat → Prop} (h0 : TabOk A n T0) (h : Proc A n T0 T done) (hd : ∀ q i v0 q', T0 q = some v0 → v0.2.length = n → i ∈ A.dr → A.nx v0.2 q i = true → A.tgt i q = some q' → done q i) : TabOk A (n + 1) T := by
  have compl : ∀ p cs q, Path A p cs q → cs.length ≤ n + 1 → ∃ v, T q = some v := fun p cs q' hp hl => by
    by_cases hl2 : cs.length ≤ n
    · obtain ⟨v, hv⟩ := h0.all p cs q' hp hl2
      exact ⟨v, h.keep q' v hv⟩
    · have hne : cs ≠ [] := fun e => by simp [e] at hl2
      have e := (List.dropLast_concat_getLast hne).symm
      obtain ⟨q, a1, a2, a3, a4⟩ := hp.snoc e
      obtain ⟨v0, hv0⟩ := h0.all _ _ _ a1 (by simp; omega)
      obtain ⟨b1, b2⟩ := h0.best q v0 hv0
      have b3 := b1.2 _ _ a1
      have b4 := Cx.nx_less hA a3 b1.1 (by omega)
      by_cases hln : v0.2.length = n
      · obtain ⟨v, hv, _⟩ := h.all q _ v0 q' (hd q _ v0 q' hv0 hln a2 b4 a4) hv0 hln a2 b4 a4
        exact ⟨v, hv⟩
      · obtain ⟨v, hv⟩ := h0.all _ _ _ (b1.1.step a2 b4 a4) (by simp; omega)
        exact ⟨v, h.keep q' v hv⟩
  refine ⟨fun q' v hv => ?_, compl⟩
  rcases h.new q' v hv with h1 | ⟨hno, q, i, v0, h1, h2, h3, h4, h5, rfl⟩
  · obtain ⟨b1, b2⟩ := h0.best q' v h1
    exact ⟨b1, by omega⟩
  · obtain ⟨b1, b2⟩ := h0.best q v0 h1
    refine ⟨⟨b1.1.step h3 h4 h5, fun p' cs' hp' => ?_⟩, by simp [h2]⟩
    have hgt : n < cs'.length := by
      rcases Nat.lt_or_ge n cs'.length with h6 | h6
      · exact h6
      · obtain ⟨u, hu⟩ := h0.all _ _ _ hp' h6
        rw [hno] at hu; cases hu
    simp only [List.length_append, List.length_cons, List.length_nil, h2]
    by_cases hl : n + 1 < cs'.length
    · exact .inl (by omega)
    · refine .inr ⟨by omega, ?_⟩
      have hne : cs' ≠ [] := fun e => by simp [e] at hgt
      have e := (List.dropLast_concat_getLast hne).symm
      obtain ⟨q2, a1, a2, a3, a4⟩ := hp'.snoc e
      obtain ⟨u0, hu0⟩ := h0.all _ _ _ a1 (by simp; omega)
      obtain ⟨c1, c2⟩ := h0.best q2 u0 hu0
      have c3 := c1.2 _ _ a1
      have c4 := Cx.nx_less hA a3 c1.1 (by omega)
      have hdl : cs'.dropLast.length = n := by simp; omega
      have hun : u0.2.length = n := by
        rcases Nat.lt_or_ge u0.2.length n with h6 | h6
        · obtain ⟨z, hz⟩ := h0.all _ _ _ (c1.1.step a2 c4 a4) (by simp; omega)
          rw [hno] at hz; cases hz
        · omega
      obtain ⟨z, hz, hz2⟩ := h.all q2 _ u0 q' (hd q2 _ u0 q' hu0 hun a2 c4 a4) hu0 hun a2 c4 a4
      rw [hv] at hz; cases hz
      have h6 := hz2 hno
      have h7 : lessB cs' (u0.2 ++ [cs'.getLast hne]) = false := by
        have h8 := lessB_snoc (a := cs'.dropLast) (b := u0.2) (cs'.getLast hne) (cs'.getLast hne) (by rw [hdl, hun])
        rw [← e] at h8
        rw [h8]
        rcases c3 with c3 | c3
        · omega
        · simp [c3.2]
      exact geB_trans (b := u0.2 ++ [cs'.getLast hne]) (by simp [hun]; omega) (by simp [hun, h2]) h7 h6
/-- no place has a chain of n couplers: no place has a longer one -/
theorem TabOk.done (hA : A.Ok) {n : Nat} {T : Tab} (h : TabOk A n T) (hn : ∀ q v, T q = some v → v.2.length ≠ n) : ∀ (m : Nat) (p : Pl) (cs : List Nat) (q : Pl), cs.length = m → Path A p cs q → ∃ v, T q = some v
  | 0, p, cs, q, hm, hp => h.all p cs q hp (by omega)
  | m + 1, p, cs, q, hm, hp => by
    have hne : cs ≠ [] := fun e => by simp [e] at hm
    have e := (List.dropLast_concat_getLast hne).symm
    obtain ⟨q2, a1, a2, a3, a4⟩ := hp.snoc e
    obtain ⟨u0, hu0⟩ := TabOk.done hA h hn m p _ q2 (by simp [hm]) a1
    obtain ⟨c1, c2⟩ := h.best q2 u0 hu0
    have c3 := c1.2 _ _ a1
    have c4 := Cx.nx_less hA a3 c1.1 (by omega)
    have := hn q2 u0 hu0
    exact h.all _ _ _ (c1.1.step a2 c4 a4) (by simp; omega)
/-- the chains of all that acts -/
structure Chains (A : Cx) (T : Tab) : Prop where
  best : ∀ q v, T q = some v → Best A v.1 v.2 q
  all : ∀ p cs q, Path A p cs q → ∃ v, T q = some v
theorem TabOk.chains (hA : A.Ok) {n : Nat} {T : Tab} (h : TabOk A n T) (hn : ∀ q v, T q = some v → v.2.length ≠ n) : Chains A T :=
  ⟨fun q v hv => (h.best q v hv).1, fun p cs q hp => h.done hA hn _ p cs q rfl hp⟩
theorem Chains.eq (hA : A.Ok) {T T' : Tab} (h : Chains A T) (h' : Chains A T') : T = T' := by
  funext q
  cases hT : T q with
  | none =>
    cases hT' : T' q with
    | none => rfl
    | some v =>
      obtain ⟨u, hu⟩ := h.all _ _ _ (h'.best q v hT').1
      rw [hT] at hu; cases hu
  | some v =>
    obtain ⟨u, hu⟩ := h'.all _ _ _ (h.best q v hT).1
    have := (h.best q v hT).uniq hA (h'.best q u hu)
    rw [hu]
    exact congrArg some (Prod.ext this.1 this.2)
theorem Chains.has {T : Tab} (h : Chains A T) (q : Pl) : (∃ v, T q = some v) ↔ ∃ p cs, Path A p cs q :=
  ⟨fun ⟨v, hv⟩ => ⟨_, _, (h.best q v hv).1⟩, fun ⟨p, cs, hp⟩ => h.all p cs q hp⟩
theorem Path.rng (hA : A.Ok) {p q : Pl} {cs : List Nat} (h : Path A p cs q) : (A.dv q.1).lo ≤ q.2 ∧ (q.2 : Int) ≤ (A.dv q.1).hi := by
  cases h with
  | played h => exact hA.key _ _ h
  | step h1 h2 h3 h4 => have := Cx.tgt_key hA h2 h4; exact ⟨this.2.2.2.1, this.2.2.2.2⟩
theorem kd_lt (hA : A.Ok) {d k : Nat} (h : k ∈ A.kd d) : d < A.ds.length := by
  rcases Nat.lt_or_ge d A.ds.length with h1 | h1
  · exact h1
  · unfold Cx.kd at h
    rw [List.getD_eq_getElem?_getD, List.getElem?_eq_none (by rw [hA.nk]; exact h1)] at h
    simp at h
theorem Path.lt (hA : A.Ok) {p q : Pl} {cs : List Nat} (h : Path A p cs q) : q.1 < A.ds.length := by
  cases h with
  | played h => exact kd_lt hA h
  | step h1 h2 h3 h4 => have := Cx.tgt_key hA h2 h4; exact this.2.2.1
theorem Path.key (hA : A.Ok) {p q : Pl} {cs : List Nat} (h : Path A p cs q) : q.2 < 128 := by
  have h1 := h.rng hA
  have h2 := hA.rng _ (h.lt hA)
  omega
end
end Go.Sn
namespace Go.Sn
/-! # What acts, as the program finds it: groups of places, in the order of their chains -/
structure En where
  q : Pl
  i : Int
  p : Pl
  org : Pl
  ch : List Nat
  deriving Inhabited
structure AS where
  sets : List Nat
  tb : List En
  deriving Inhabited
def tabOf (l : List En) : Tab := fun q => (l.find? fun e => decide (e.q = q)).map fun e => (e.org, e.ch)
def hasS (sets : List Nat) (q : Pl) : Bool := (sets.getD q.1 0).testBit q.2
def addSet (sets : List Nat) (q : Pl) : List Nat := sets.set q.1 (sets.getD q.1 0 ||| 2 ^ q.2)
def enOf (l : List En) (q : Pl) (i : Nat) (p : Pl) : En := match tabOf l p with
  | some v => ⟨q, i, p, v.1, v.2 ++ [i]⟩
  | none => ⟨q, i, p, p, [i]⟩
def putPlayed (st : AS) (q : Pl) : AS := ⟨addSet st.sets q, st.tb ++ [⟨q, -1, (0, 0), q, []⟩]⟩
def playedL (A : Cx) : List Pl := (List.range A.ks.length).flatMap fun d => (A.kd d).map fun k => (d, k)
def st0 (A : Cx) : AS := (playedL A).foldl putPlayed ⟨List.replicate A.ds.length 0, []⟩
def stepR (A : Cx) (i : Nat) (x : AS × List Pl) (p : Pl) : AS × List Pl := match A.tgt i p with
  | some q => if hasS x.1.sets q then x else (⟨addSet x.1.sets q, x.1.tb ++ [enOf x.1.tb q i p]⟩, x.2 ++ [q])
  | none => x
def reachP (A : Cx) (i : Nat) (l : List Pl) (st : AS) : AS × List Pl := l.foldl (stepR A i) (st, [])
abbrev GS := AS × List (List Pl)
def firstStep (A : Cx) (x : GS) (i : Nat) : GS := ((reachP A i (A.start i) x.1).1, x.2 ++ [(reachP A i (A.start i) x.1).2])
def firstG (A : Cx) (st : AS) : GS := A.dr.foldl (firstStep A) (st, [])
def goesL (A : Cx) (i : Nat) (l : List Pl) : Bool := match l with
  | [] => false
  | q :: _ => A.goes i q
def nextC (A : Cx) (l : List Pl) (x : GS) (i : Nat) : GS := if goesL A i l then ((reachP A i l x.1).1, x.2 ++ [(reachP A i l x.1).2]) else x
def nextL (A : Cx) (x : GS) (l : List Pl) : GS := A.dr.foldl (nextC A l) x
def nextG (A : Cx) (x : GS) : GS := ((x.2.foldl (nextL A) (x.1, [])).1, (x.2.foldl (nextL A) (x.1, [])).2.filter fun l => decide (l ≠ []))
def lev (A : Cx) : Nat → GS
  | 0 => firstG A (st0 A)
  | n + 1 => nextG A (lev A n)
def fuelA (A : Cx) : Nat := 1000 + A.ds.length
def actP (A : Cx) : AS := (lev A (fuelA A)).1
section
variable {A : Cx}
theorem tabOf_snoc (l : List En) (e : En) (q : Pl) : tabOf (l ++ [e]) q = match tabOf l q with | some v => some v | none => if e.q = q then some (e.org, e.ch) else none := by
  unfold tabOf
  rw [List.find?_append]
  cases h : l.find? (fun e => decide (e.q = q)) with
  | some v => simp
  | none =>
    simp only [Option.none_or, Option.map_none, List.find?_cons, List.find?_nil]
    by_cases h2 : e.q = q <;> simp [h2]
structure SetOk (A : Cx) (st : AS) : Prop where
  len : st.sets.length = A.ds.length
  has : ∀ q : Pl, q.1 < A.ds.length → (hasS st.sets q = true ↔ ∃ v, tabOf st.tb q = some v)
  lt : ∀ x ∈ st.sets, x < 2 ^ 128
  rng : ∀ q v, tabOf st.tb q = some v → q.1 < A.ds.length ∧ q.2 < 128
theorem or_lt128 {x k : Nat} (hx : x < 2 ^ 128) (hk : k < 128) : x ||| 2 ^ k < 2 ^ 128 := Nat.or_lt_two_pow hx (Nat.pow_lt_pow_right (by decide) hk)
theorem getD_lt {sets : List Nat} (h : ∀ x ∈ sets, x < 2 ^ 128) (d : Nat) : sets.getD d 0 < 2 ^ 128 := by
  rcases Nat.lt_or_ge d sets.length with h1 | h1
  · rw [List.getD_eq_getElem?_getD, List.getElem?_eq_getElem h1]; exact h _ (List.getElem_mem h1)
  · rw [List.getD_eq_getElem?_getD, List.getElem?_eq_none h1]; exact Nat.two_pow_pos 128
theorem hasS_add {sets : List Nat} {q q' : Pl} (h : q.1 < sets.length) : hasS (addSet sets q) q' = (hasS sets q' || decide (q' = q)) := by
  unfold hasS addSet
  rw [Gv.getD_set _ _ _ _ h]
  by_cases e : q.1 = q'.1
  · rw [if_pos e, ← e, Nat.testBit_or, Nat.testBit_two_pow]
    by_cases e2 : q.2 = q'.2
    · have : q' = q := Prod.ext e.symm e2.symm
      simp [this]
    · have : ¬ q' = q := fun h => e2 (by rw [h])
      simp [this, e2]
  · have : ¬ q' = q := fun h => e (by rw [h])
    simp [e, this]
theorem SetOk.put {st : AS} (h : SetOk A st) {q : Pl} (hq : q.1 < A.ds.length) (hk : q.2 < 128) {e : En} (he : e.q = q) : SetOk A ⟨addSet st.sets q, st.tb ++ [e]⟩ := by
  refine ⟨by simp [addSet, h.len], fun q' hq' => ?_, fun x hx => ?_, fun q' v hv => ?_⟩
  · simp only
    rw [hasS_add (by rw [h.len]; exact hq), tabOf_snoc, he, Bool.or_eq_true, h.has q' hq', decide_eq_true_eq]
    cases h2 : tabOf st.tb q' with
    | some v => simp
    | none =>
      by_cases h3 : q' = q
      · subst h3; simp
      · have h4 : ¬ q = q' := fun h => h3 h.symm
        simp [h3, h4]
  · simp only [addSet] at hx
    rcases List.mem_or_eq_of_mem_set hx with h1 | h1
    · exact h.lt x h1
    · rw [h1]; exact or_lt128 (getD_lt h.lt _) hk
  · simp only at hv
    rw [tabOf_snoc] at hv
    cases h2 : tabOf st.tb q' with
    | some u => exact h.rng q' u h2
    | none =>
      rw [h2] at hv
      simp only [he] at hv
      split at hv
      · rename_i h3; subst h3; exact ⟨hq, hk⟩
      · cases hv
/-- one coupler from places with one chain -/
structure Rch (A : Cx) (n : Nat) (T0 : Tab) (cur : List Nat) (st : AS) (done : Pl → Nat → Prop) : Prop where
  set : SetOk A st
  proc : Proc A n T0 (tabOf st.tb) done
  cur : ∀ q v, tabOf st.tb q = some v → T0 q = none → v.2 = cur ∨ lessB v.2 cur = true
theorem stepR_ok (hA : A.Ok) {n : Nat} {T0 : Tab} (h0 : TabOk A n T0) {i : Nat} {cs : List Nat} {st : AS} {out : List Pl} {done : Pl → Nat → Prop} {p : Pl} {v0 : Pl × List Nat} (hn : cs.length = n) (hi : i ∈ A.dr) (hp : T0 p = some v0) (hv0 : v0.2 = cs) (hx : A.nx cs p i = true)
    (h : Rch A n T0 (cs ++ [i]) st done) (ho : ∀ q ∈ out, T0 q = none ∧ (∃ v, tabOf st.tb q = some v ∧ v.2 = cs ++ [i]) ∧ q.1 = (A.cp i).dst.toNat) :
    let r := stepR A i (st, out) p
    Rch A n T0 (cs ++ [i]) r.1 (fun a b => done a b ∨ (a = p ∧ b = i)) ∧ (∀ q ∈ r.2, T0 q = none ∧ (∃ v, tabOf r.1.tb q = some v ∧ v.2 = cs ++ [i]) ∧ q.1 = (A.cp i).dst.toNat) ∧ (∀ q v, tabOf st.tb q = some v → tabOf r.1.tb q = some v) ∧ (∀ q v, tabOf r.1.tb q = some v → tabOf st.tb q = some v ∨ q ∈ r.2) ∧ (∀ q ∈ out, q ∈ r.2) := by
  subst hv0
  simp only [stepR]
  cases ht : A.tgt i p with
  | none => exact ⟨⟨h.set, h.proc.skip ht, h.cur⟩, ho, fun _ _ h => h, fun _ _ h => .inl h, fun _ h => h⟩
  | some q =>
    simp only
    have htk := Cx.tgt_key hA hi ht
    have hrq := hA.rng q.1 htk.2.2.1
    by_cases hh : hasS st.sets q = true
    · rw [if_pos hh]
      obtain ⟨old, hold⟩ := (h.set.has q htk.2.2.1).1 hh
      have hadd := h.proc.add h0 hp hn hi hx ht
      have e : addT (tabOf st.tb) q (v0.1, v0.2 ++ [i]) = tabOf st.tb := by
        funext a
        unfold addT
        split
        · rename_i e; subst e
          rw [hold]
          simp only
          rw [if_neg]
          rintro ⟨h1, h2⟩
          have hno : T0 a = none := by
            cases h3 : T0 a with
            | none => rfl
            | some z =>
              have h4 := h.proc.keep a z h3
              rw [hold] at h4; cases h4
              have := (h0.best a old h3).2
              simp [hn] at h1; omega
          rcases h.cur a old hold hno with h4 | h4
          · rw [h4, lessB_irrefl] at h2; cases h2
          · rw [lessB_asymm h4] at h2; cases h2
        · rfl
      rw [e] at hadd
      exact ⟨⟨h.set, hadd, h.cur⟩, ho, fun _ _ h => h, fun _ _ h => .inl h, fun _ h => h⟩
    · rw [if_neg hh]
      have hnone : tabOf st.tb q = none := by
        cases h2 : tabOf st.tb q with
        | none => rfl
        | some v => exact absurd ((h.set.has q htk.2.2.1).2 ⟨v, h2⟩) hh
      have hpt : tabOf st.tb p = some v0 := h.proc.keep p v0 hp
      have een : enOf st.tb q i p = ⟨q, i, p, v0.1, v0.2 ++ [i]⟩ := by unfold enOf; rw [hpt]
      have etab : tabOf (st.tb ++ [enOf st.tb q i p]) = addT (tabOf st.tb) q (v0.1, v0.2 ++ [i]) := by
        funext a
        rw [tabOf_snoc, een]
        unfold addT
        by_cases h2 : a = q
        · subst h2; simp [hnone]
        · have h3 : ¬ q = a := fun h => h2 h.symm
          simp only [h2, h3, if_false]
          cases tabOf st.tb a <;> rfl
      have hadd := h.proc.add h0 hp hn hi hx ht
      have hq0 : T0 q = none := by
        cases h3 : T0 q with
        | none => rfl
        | some z => rw [h.proc.keep q z h3] at hnone; cases hnone
      have key : ∀ a v, tabOf (st.tb ++ [enOf st.tb q i p]) a = some v → tabOf st.tb a = some v ∨ (a = q ∧ v = (v0.1, v0.2 ++ [i])) := fun a v ha => by
        rw [tabOf_snoc, een] at ha
        cases h2 : tabOf st.tb a with
        | some u => rw [h2] at ha; exact .inl ha
        | none =>
          rw [h2] at ha
          simp only at ha
          split at ha
          · rename_i h3; cases ha; exact .inr ⟨h3.symm, rfl⟩
          · cases ha
      have keep : ∀ a v, tabOf st.tb a = some v → tabOf (st.tb ++ [enOf st.tb q i p]) a = some v := fun a v ha => by
        rw [tabOf_snoc, ha]
      refine ⟨⟨h.set.put htk.2.2.1 (by omega) (by rw [een]), by rw [etab]; exact hadd, fun a v ha hno => ?_⟩, fun a ha => ?_, keep, fun a v ha => ?_, fun a ha => List.mem_append_left _ ha⟩
      · rcases key a v ha with h2 | ⟨rfl, rfl⟩
        · exact h.cur a v h2 hno
        · exact .inl rfl
      · rcases List.mem_append.1 ha with h2 | h2
        · obtain ⟨o1, ⟨v, o2, o3⟩, o4⟩ := ho a h2
          exact ⟨o1, ⟨v, keep a v o2, o3⟩, o4⟩
        · have := List.mem_singleton.1 h2
          subst this
          refine ⟨hq0, ⟨(v0.1, v0.2 ++ [i]), ?_, rfl⟩, htk.2.1⟩
          show tabOf (st.tb ++ [enOf st.tb a i p]) a = _
          rw [tabOf_snoc, hnone, een]; simp
      · rcases key a v ha with h2 | ⟨rfl, rfl⟩
        · exact .inl h2
        · exact .inr (by simp)
theorem reach_fold (hA : A.Ok) {n : Nat} {T0 : Tab} (h0 : TabOk A n T0) {i : Nat} {cs : List Nat} (hn : cs.length = n) (hi : i ∈ A.dr) :
    ∀ (l : List Pl) (st : AS) (out : List Pl) (done : Pl → Nat → Prop), (∀ p ∈ l, (∃ v0, T0 p = some v0 ∧ v0.2 = cs) ∧ A.nx cs p i = true) → Rch A n T0 (cs ++ [i]) st done → (∀ q ∈ out, T0 q = none ∧ (∃ v, tabOf st.tb q = some v ∧ v.2 = cs ++ [i]) ∧ q.1 = (A.cp i).dst.toNat) →
      let r := l.foldl (stepR A i) (st, out)
      Rch A n T0 (cs ++ [i]) r.1 (fun a b => done a b ∨ (a ∈ l ∧ b = i)) ∧ (∀ q ∈ r.2, T0 q = none ∧ (∃ v, tabOf r.1.tb q = some v ∧ v.2 = cs ++ [i]) ∧ q.1 = (A.cp i).dst.toNat) ∧ (∀ q v, tabOf st.tb q = some v → tabOf r.1.tb q = some v) ∧ (∀ q v, tabOf r.1.tb q = some v → tabOf st.tb q = some v ∨ q ∈ r.2) ∧ (∀ q ∈ out, q ∈ r.2)
  | [], st, out, done, hl, h, ho => ⟨⟨h.set, h.proc.weak (fun q i v0 q' hd _ _ _ _ _ => by simpa using hd), h.cur⟩, ho, fun _ _ h => h, fun _ _ h => .inl h, fun _ h => h⟩
  | p :: l, st, out, done, hl, h, ho => by
    obtain ⟨⟨v0, hp, hv⟩, hx⟩ := hl p List.mem_cons_self
    obtain ⟨a1, a2, a3, a4, a5⟩ := stepR_ok hA h0 hn hi hp hv hx h ho
    obtain ⟨b1, b2, b3, b4, b5⟩ := reach_fold hA h0 hn hi l (stepR A i (st, out) p).1 (stepR A i (st, out) p).2 _ (fun p' h' => hl p' (List.mem_cons_of_mem _ h')) a1 a2
    simp only [List.foldl_cons]
    refine ⟨⟨b1.set, b1.proc.weak (fun q j v0 q' hd _ _ _ _ _ => ?_), b1.cur⟩, b2, fun q v hq => b3 q v (a3 q v hq), fun q v hq => ?_, fun q hq => b5 q (a5 q hq)⟩
    · rcases hd with hd | ⟨hd, rfl⟩
      · exact .inl (.inl hd)
      · rcases List.mem_cons.1 hd with rfl | hd
        · exact .inl (.inr ⟨rfl, rfl⟩)
        · exact .inr ⟨hd, rfl⟩
    · rcases b4 q v hq with h2 | h2
      · rcases a4 q v h2 with h3 | h3
        · exact .inl h3
        · exact .inr (b5 q h3)
      · exact .inr h2
/-- groups so far, with their chains -/
structure Grp (A : Cx) (n : Nat) (T0 : Tab) (x : GS) (L : List (List Nat × List Pl)) (done : Pl → Nat → Prop) : Prop where
  set : SetOk A x.1
  proc : Proc A n T0 (tabOf x.1.tb) done
  eq : x.2 = L.map Prod.snd
  len : ∀ g ∈ L, g.1.length = n + 1
  asc : L.Pairwise fun a b => lessB a.1 b.1 = true
  mem : ∀ g ∈ L, ∀ q ∈ g.2, T0 q = none ∧ ∃ v, tabOf x.1.tb q = some v ∧ v.2 = g.1
  all : ∀ q v, tabOf x.1.tb q = some v → T0 q = none → ∃ g ∈ L, q ∈ g.2
  one : ∀ g ∈ L, ∀ q ∈ g.2, ∀ q' ∈ g.2, q.1 = q'.1
theorem Grp.reach (hA : A.Ok) {n : Nat} {T0 : Tab} (h0 : TabOk A n T0) {i : Nat} {cs : List Nat} (hn : cs.length = n) (hi : i ∈ A.dr) {x : GS} {L : List (List Nat × List Pl)} {done : Pl → Nat → Prop} (h : Grp A n T0 x L done) {l : List Pl}
    (hl : ∀ p ∈ l, (∃ v0, T0 p = some v0 ∧ v0.2 = cs) ∧ A.nx cs p i = true) (hcur : ∀ g ∈ L, lessB g.1 (cs ++ [i]) = true) :
    Grp A n T0 ((reachP A i l x.1).1, x.2 ++ [(reachP A i l x.1).2]) (L ++ [(cs ++ [i], (reachP A i l x.1).2)]) (fun a b => done a b ∨ (a ∈ l ∧ b = i)) := by
  have hr : Rch A n T0 (cs ++ [i]) x.1 done := ⟨h.set, h.proc, fun q v hv hno => by
    obtain ⟨g, hg, hq⟩ := h.all q v hv hno
    obtain ⟨_, u, hu, hue⟩ := h.mem g hg q hq
    rw [hv] at hu; cases hu
    rw [hue]; exact .inr (hcur g hg)⟩
  obtain ⟨b1, b2, b3, b4, b5⟩ := reach_fold hA h0 hn hi l x.1 [] done hl hr (by simp)
  refine ⟨b1.set, b1.proc, by simp [h.eq, reachP], ?_, ?_, ?_, ?_, ?_⟩
  · intro g hg
    rcases List.mem_append.1 hg with hg | hg
    · exact h.len g hg
    · rw [List.mem_singleton.1 hg]; simp [hn]
  · rw [List.pairwise_append]
    refine ⟨h.asc, by simp, fun a ha b hb => ?_⟩
    rw [List.mem_singleton.1 hb]; exact hcur a ha
  · intro g hg q hq
    rcases List.mem_append.1 hg with hg | hg
    · obtain ⟨m1, v, m2, m3⟩ := h.mem g hg q hq
      exact ⟨m1, v, b3 q v m2, m3⟩
    · rw [List.mem_singleton.1 hg] at hq ⊢
      exact ⟨(b2 q hq).1, (b2 q hq).2.1⟩
  · intro q v hv hno
    rcases b4 q v hv with h2 | h2
    · obtain ⟨g, hg, hq⟩ := h.all q v h2 hno
      exact ⟨g, List.mem_append_left _ hg, hq⟩
    · exact ⟨_, List.mem_append_right _ (List.mem_singleton.2 rfl), h2⟩
  · intro g hg q hq q' hq'
    rcases List.mem_append.1 hg with hg | hg
    · exact h.one g hg q hq q' hq'
    · rw [List.mem_singleton.1 hg] at hq hq'
      rw [(b2 q hq).2.2, (b2 q' hq').2.2]
theorem Grp.weak {n : Nat} {T0 : Tab} {x : GS} {L : List (List Nat × List Pl)} {done done' : Pl → Nat → Prop} (h : Grp A n T0 x L done) (hd : ∀ q i v0 q', done' q i → T0 q = some v0 → v0.2.length = n → i ∈ A.dr → A.nx v0.2 q i = true → A.tgt i q = some q' → done q i) : Grp A n T0 x L done' :=
  ⟨h.set, h.proc.weak hd, h.eq, h.len, h.asc, h.mem, h.all, h.one⟩
theorem lessB_init {a b : List Nat} (hl : a.length = b.length) {i j : Nat} (h : lessB a b = true) : lessB (a ++ [i]) (b ++ [j]) = true := by rw [lessB_snoc _ _ hl, h]; rfl
theorem lessB_last {a : List Nat} {i j : Nat} (h : i < j) : lessB (a ++ [i]) (a ++ [j]) = true := by rw [lessB_snoc _ _ rfl]; simp [h]
/-- the couplers from one group -/
theorem next_inner (hA : A.Ok) {n : Nat} (hn1 : n ≠ 0) {T0 : Tab} (h0 : TabOk A n T0) {cs : List Nat} (hn : cs.length = n) {l : List Pl} (hl : ∀ p ∈ l, (∃ v0, T0 p = some v0 ∧ v0.2 = cs)) (hone : ∀ q ∈ l, ∀ q' ∈ l, q.1 = q'.1) :
    ∀ (dr : List Nat) (x : GS) (L : List (List Nat × List Pl)) (done : Pl → Nat → Prop), (∀ i ∈ dr, i ∈ A.dr) → dr.Pairwise (· < ·) → Grp A n T0 x L done → (∀ i ∈ dr, ∀ g ∈ L, lessB g.1 (cs ++ [i]) = true) →
      ∃ L' : List (List Nat × List Pl), Grp A n T0 (dr.foldl (nextC A l) x) L' (fun a b => done a b ∨ (a ∈ l ∧ b ∈ dr)) ∧ (∀ g ∈ L', g ∈ L ∨ ∃ i, g.1 = cs ++ [i])
  | [], x, L, done, _, _, h, _ => ⟨L, h.weak (fun q i v0 q' hd _ _ _ _ _ => by simpa using hd), fun g hg => .inl hg⟩
  | i :: dr, x, L, done, hd, hp, h, hc => by
    have hi := hd i List.mem_cons_self
    have hp' := List.pairwise_cons.1 hp
    have hcs : cs ≠ [] := fun e => hn1 (by rw [← hn, e]; rfl)
    by_cases hg : goesL A i l = true
    · have hall : ∀ p ∈ l, (∃ v0, T0 p = some v0 ∧ v0.2 = cs) ∧ A.nx cs p i = true := fun p hp => ⟨hl p hp, by
        unfold Cx.nx
        rw [if_neg hcs]
        cases l with
        | nil => simp at hp
        | cons q l =>
          simp only [goesL] at hg
          have := hone p hp q List.mem_cons_self
          unfold Cx.goes at hg ⊢
          rw [this]; exact hg⟩
      have h1 := h.reach hA h0 hn hi hall (fun g hg => hc i List.mem_cons_self g hg)
      obtain ⟨L', h2, h3⟩ := next_inner hA hn1 h0 hn hl hone dr _ _ _ (fun j hj => hd j (List.mem_cons_of_mem _ hj)) hp'.2 h1 (fun j hj g hg => by
        rcases List.mem_append.1 hg with hg | hg
        · exact hc j (List.mem_cons_of_mem _ hj) g hg
        · rw [List.mem_singleton.1 hg]; exact lessB_last (hp'.1 j hj))
      refine ⟨L', ?_, fun g hg => ?_⟩
      · rw [List.foldl_cons]
        have e : nextC A l x i = ((reachP A i l x.1).1, x.2 ++ [(reachP A i l x.1).2]) := by unfold nextC; rw [if_pos hg]
        rw [e]
        refine h2.weak fun q j v0 q' hd _ _ _ _ _ => ?_
        rcases hd with hz | ⟨hz, hj⟩
        · exact .inl (.inl hz)
        · rcases List.mem_cons.1 hj with rfl | hj
          · exact .inl (.inr ⟨hz, rfl⟩)
          · exact .inr ⟨hz, hj⟩
      · rcases h3 g hg with h4 | h4
        · rcases List.mem_append.1 h4 with h4 | h4
          · exact .inl h4
          · exact .inr ⟨i, by rw [List.mem_singleton.1 h4]⟩
        · exact .inr h4
    · have e : nextC A l x i = x := by unfold nextC; rw [if_neg hg]
      obtain ⟨L', h2, h3⟩ := next_inner hA hn1 h0 hn hl hone dr x L done (fun j hj => hd j (List.mem_cons_of_mem _ hj)) hp'.2 h (fun j hj g hg => hc j (List.mem_cons_of_mem _ hj) g hg)
      refine ⟨L', ?_, h3⟩
      rw [List.foldl_cons, e]
      refine h2.weak fun q j v0 q' hd hq hl0 _ hx _ => ?_
      rcases hd with hz | ⟨hz, hj⟩
      · exact .inl hz
      · rcases List.mem_cons.1 hj with rfl | hj
        · exfalso
          apply hg
          obtain ⟨u, hu, hue⟩ := hl q hz
          rw [hq] at hu; cases hu
          unfold Cx.nx at hx
          rw [if_neg (by rw [hue]; exact hcs)] at hx
          cases l with
          | nil => simp at hz
          | cons q2 l =>
            simp only [goesL]
            have := hone q hz q2 List.mem_cons_self
            unfold Cx.goes at hx ⊢
            rw [← this]; exact hx
        · exact .inr ⟨hz, hj⟩
theorem next_outer (hA : A.Ok) {n : Nat} (hn1 : n ≠ 0) {T0 : Tab} (h0 : TabOk A n T0) :
    ∀ (G : List (List Nat × List Pl)) (x : GS) (L : List (List Nat × List Pl)) (done : Pl → Nat → Prop), (∀ g ∈ G, g.1.length = n) → G.Pairwise (fun a b => lessB a.1 b.1 = true) → (∀ g ∈ G, ∀ p ∈ g.2, ∃ v0, T0 p = some v0 ∧ v0.2 = g.1) → (∀ g ∈ G, ∀ q ∈ g.2, ∀ q' ∈ g.2, q.1 = q'.1) →
      Grp A n T0 x L done → (∀ g ∈ G, ∀ c ∈ L, ∀ i, lessB c.1 (g.1 ++ [i]) = true) →
      ∃ L' : List (List Nat × List Pl), Grp A n T0 ((G.map Prod.snd).foldl (nextL A) x) L' (fun a b => done a b ∨ ((∃ g ∈ G, a ∈ g.2) ∧ b ∈ A.dr))
  | [], x, L, done, _, _, _, _, h, _ => ⟨L, h.weak (fun q i v0 q' hd _ _ _ _ _ => by simpa using hd)⟩
  | g :: G, x, L, done, h1, h2, h3, h4, h, h5 => by
    have h2' := List.pairwise_cons.1 h2
    obtain ⟨L1, a1, a2⟩ := next_inner hA hn1 h0 (h1 g List.mem_cons_self) (h3 g List.mem_cons_self) (h4 g List.mem_cons_self) A.dr x L done (fun _ h => h) hA.dra h (fun i _ c hc => h5 g List.mem_cons_self c hc i)
    obtain ⟨L2, b1⟩ := next_outer hA hn1 h0 G _ L1 _ (fun c hc => h1 c (List.mem_cons_of_mem _ hc)) h2'.2 (fun c hc => h3 c (List.mem_cons_of_mem _ hc)) (fun c hc => h4 c (List.mem_cons_of_mem _ hc)) a1 (fun c hc d hd j => by
      rcases a2 d hd with h6 | ⟨i, h6⟩
      · exact h5 c (List.mem_cons_of_mem _ hc) d h6 j
      · rw [h6]; exact lessB_init (by rw [h1 g List.mem_cons_self, h1 c (List.mem_cons_of_mem _ hc)]) (h2'.1 c hc))
    refine ⟨L2, b1.weak fun q i v0 q' hd _ _ _ _ _ => ?_⟩
    rcases hd with hd | ⟨⟨c, hc, hq⟩, hi⟩
    · exact .inl (.inl hd)
    · rcases List.mem_cons.1 hc with rfl | hc
      · exact .inl (.inr ⟨hq, hi⟩)
      · exact .inr ⟨⟨c, hc, hq⟩, hi⟩
theorem first_outer (hA : A.Ok) {T0 : Tab} (h0 : TabOk A 0 T0) :
    ∀ (dr : List Nat) (x : GS) (L : List (List Nat × List Pl)) (done : Pl → Nat → Prop), (∀ i ∈ dr, i ∈ A.dr) → dr.Pairwise (· < ·) → Grp A 0 T0 x L done → (∀ i ∈ dr, ∀ c ∈ L, lessB c.1 [i] = true) →
      ∃ L' : List (List Nat × List Pl), Grp A 0 T0 (dr.foldl (firstStep A) x) L' (fun a b => done a b ∨ (a ∈ A.start b ∧ b ∈ dr))
  | [], x, L, done, _, _, h, _ => ⟨L, h.weak (fun q i v0 q' hd _ _ _ _ _ => by simpa using hd)⟩
  | i :: dr, x, L, done, hd, hp, h, hc => by
    have hi := hd i List.mem_cons_self
    have hp' := List.pairwise_cons.1 hp
    have hall : ∀ p ∈ A.start i, (∃ v0, T0 p = some v0 ∧ v0.2 = []) ∧ A.nx [] p i = true := fun p hp => by
      refine ⟨?_, by unfold Cx.nx; simp [hp]⟩
      have := (Cx.start_mem hp).2
      obtain ⟨v, hv⟩ := h0.all p [] p (.played this) (Nat.le_refl _)
      exact ⟨v, hv, List.length_eq_zero_iff.1 (by have := (h0.best p v hv).2; omega)⟩
    have h1 := h.reach hA h0 (cs := []) rfl hi hall (fun g hg => hc i List.mem_cons_self g hg)
    obtain ⟨L', h2⟩ := first_outer hA h0 dr (firstStep A x i) _ _ (fun j hj => hd j (List.mem_cons_of_mem _ hj)) hp'.2 h1 (fun j hj g hg => by
      rcases List.mem_append.1 hg with hg | hg
      · exact hc j (List.mem_cons_of_mem _ hj) g hg
      · rw [List.mem_singleton.1 hg]; exact lessB_last (a := []) (hp'.1 j hj))
    refine ⟨L', ?_⟩
    rw [List.foldl_cons]
    refine h2.weak fun q j v0 q' hd _ _ _ _ _ => ?_
    rcases hd with hz | ⟨hz, hj⟩
    · exact .inl (.inl hz)
    · rcases List.mem_cons.1 hj with rfl | hj
      · exact .inl (.inr ⟨hz, rfl⟩)
      · exact .inr ⟨hz, hj⟩
/-- what a level leaves -/
structure Lv (A : Cx) (n : Nat) (x : GS) : Prop where
  ok : TabOk A n (tabOf x.1.tb)
  set : SetOk A x.1
  grp : ∃ L : List (List Nat × List Pl), x.2 = L.map Prod.snd ∧ (∀ g ∈ L, g.1.length = n) ∧ L.Pairwise (fun a b => lessB a.1 b.1 = true) ∧ (∀ g ∈ L, ∀ q ∈ g.2, ∃ v, tabOf x.1.tb q = some v ∧ v.2 = g.1) ∧ (∀ q v, tabOf x.1.tb q = some v → v.2.length = n → ∃ g ∈ L, q ∈ g.2) ∧ (∀ g ∈ L, ∀ q ∈ g.2, ∀ q' ∈ g.2, q.1 = q'.1)
theorem Grp.lv (hA : A.Ok) {n : Nat} {T0 : Tab} (h0 : TabOk A n T0) {x : GS} {L : List (List Nat × List Pl)} {done : Pl → Nat → Prop} (h : Grp A n T0 x L done) (hd : ∀ q i v0 q', T0 q = some v0 → v0.2.length = n → i ∈ A.dr → A.nx v0.2 q i = true → A.tgt i q = some q' → done q i) : Lv A (n + 1) x := by
  have hf := h.proc.finish hA h0 hd
  refine ⟨hf, h.set, L, h.eq, h.len, h.asc, fun g hg q hq => (h.mem g hg q hq).2, fun q v hv hl => ?_, h.one⟩
  refine h.all q v hv ?_
  cases h1 : T0 q with
  | none => rfl
  | some z =>
    have h2 := h.proc.keep q z h1
    rw [hv] at h2; cases h2
    have := (h0.best q v h1).2
    omega
theorem Lv.filter {n : Nat} {x : GS} (h : Lv A n x) : Lv A n (x.1, x.2.filter fun l => decide (l ≠ [])) := by
  obtain ⟨L, g1, g2, g3, g4, g5, g6⟩ := h.grp
  refine ⟨h.ok, h.set, L.filter (fun g => decide (g.2 ≠ [])), ?_, fun g hg => g2 g (List.mem_filter.1 hg).1, g3.filter _, fun g hg => g4 g (List.mem_filter.1 hg).1, fun q v hv hl => ?_, fun g hg => g6 g (List.mem_filter.1 hg).1⟩
  · show x.2.filter _ = _
    rw [g1, List.filter_map]
    rfl
  · obtain ⟨g, hg, hq⟩ := g5 q v hv hl
    refine ⟨g, List.mem_filter.2 ⟨hg, ?_⟩, hq⟩
    simp only [ne_eq, decide_eq_true_eq]
    intro e; rw [e] at hq; simp at hq
theorem Lv.next (hA : A.Ok) {n : Nat} (hn1 : n ≠ 0) {x : GS} (h : Lv A n x) : Lv A (n + 1) (nextG A x) := by
  obtain ⟨L, g1, g2, g3, g4, g5, g6⟩ := h.grp
  have hin : Grp A n (tabOf x.1.tb) (x.1, []) [] (fun _ _ => False) := ⟨h.set, .init, rfl, by simp, by simp, by simp, fun q v hv hno => (by simp only at hv; rw [hno] at hv; cases hv), by simp⟩
  obtain ⟨L', h1⟩ := next_outer hA hn1 h.ok L (x.1, []) [] _ g2 g3 g4 g6 hin (by simp)
  rw [← g1] at h1
  exact (h1.lv hA h.ok fun q i v0 q' hq hl hi hx ht => .inr ⟨g5 q v0 hq hl, hi⟩).filter
theorem played_fold (hA : A.Ok) : ∀ (l : List Pl) (st : AS), (∀ q ∈ l, q.2 ∈ A.kd q.1) → l.Nodup → SetOk A st → (∀ q v, tabOf st.tb q = some v → v = (q, []) ∧ q.2 ∈ A.kd q.1) →
    SetOk A (l.foldl putPlayed st) ∧ (∀ q v, tabOf (l.foldl putPlayed st).tb q = some v → v = (q, []) ∧ q.2 ∈ A.kd q.1) ∧ (∀ q, (q ∈ l ∨ ∃ v, tabOf st.tb q = some v) → ∃ v, tabOf (l.foldl putPlayed st).tb q = some v)
  | [], st, _, _, h1, h2 => ⟨h1, h2, fun q hq => by simpa using hq⟩
  | q :: l, st, hl, hnd, h1, h2 => by
    have hq := hl q List.mem_cons_self
    have hlt := kd_lt hA hq
    have hk := hA.key _ _ hq
    have hr := hA.rng _ hlt
    obtain ⟨a1, a2, a3⟩ := played_fold hA l (putPlayed st q) (fun p hp => hl p (List.mem_cons_of_mem _ hp)) (List.nodup_cons.1 hnd).2 (h1.put hlt (by omega) rfl) (fun p v hv => by
      simp only [putPlayed] at hv
      rw [tabOf_snoc] at hv
      cases h3 : tabOf st.tb p with
      | some u => rw [h3] at hv; cases hv; exact h2 p _ h3
      | none =>
        rw [h3] at hv
        simp only at hv
        split at hv
        · rename_i e; subst e; cases hv; exact ⟨rfl, hq⟩
        · cases hv)
    refine ⟨a1, a2, fun p hp => a3 p ?_⟩
    simp only [putPlayed]
    rcases hp with hp | ⟨v, hv⟩
    · rcases List.mem_cons.1 hp with rfl | hp
      · right
        rw [tabOf_snoc]
        cases h3 : tabOf st.tb p with
        | some u => exact ⟨u, rfl⟩
        | none => exact ⟨(p, []), by simp⟩
      · exact .inl hp
    · right
      rw [tabOf_snoc, hv]; exact ⟨v, rfl⟩
theorem playedL_mem {q : Pl} : q ∈ playedL A ↔ q.1 < A.ks.length ∧ q.2 ∈ A.kd q.1 := by
  unfold playedL
  simp only [List.mem_flatMap, List.mem_range, List.mem_map]
  constructor
  · rintro ⟨d, hd, k, hk, rfl⟩; exact ⟨hd, hk⟩
  · rintro ⟨h1, h2⟩; exact ⟨q.1, h1, q.2, h2, rfl⟩
theorem playedL_nodup (hA : A.Ok) : (playedL A).Nodup := by
  unfold playedL
  rw [List.nodup_iff_pairwise_ne, List.pairwise_flatMap]
  refine ⟨fun d _ => ?_, ?_⟩
  · rw [List.pairwise_map]
    exact (hA.asc d).imp fun h e => by cases e; omega
  · refine List.nodup_range.imp fun {a b} hab x hx y hy e => ?_
    obtain ⟨_, _, rfl⟩ := List.mem_map.1 hx
    obtain ⟨_, _, rfl⟩ := List.mem_map.1 hy
    cases e; exact hab rfl
theorem st0_ok (hA : A.Ok) : TabOk A 0 (tabOf (st0 A).tb) ∧ SetOk A (st0 A) := by
  have hin : SetOk A ⟨List.replicate A.ds.length 0, []⟩ := ⟨by simp, fun q hq => by
      have : (List.replicate A.ds.length 0).getD q.1 0 = 0 := by rw [List.getD_eq_getElem?_getD, List.getElem?_replicate]; split <;> rfl
      simp only [hasS, this, Nat.zero_testBit]
      simp [tabOf], fun x hx => by rw [(List.mem_replicate.1 hx).2]; exact Nat.two_pow_pos 128, fun q v hv => by simp [tabOf] at hv⟩
  obtain ⟨a1, a2, a3⟩ := played_fold hA (playedL A) _ (fun q hq => (playedL_mem.1 hq).2) (playedL_nodup hA) hin (by simp [tabOf])
  refine ⟨⟨fun q v hv => ?_, fun p cs q hp hl => ?_⟩, a1⟩
  · obtain ⟨rfl, h2⟩ := a2 q v hv
    refine ⟨⟨.played h2, fun p' cs' hp' => ?_⟩, Nat.le_refl _⟩
    cases cs' with
    | nil => exact .inr ⟨rfl, rfl⟩
    | cons c cs' => exact .inl (by simp)
  · have e : cs = [] := List.length_eq_zero_iff.1 (by omega)
    have h2 := (hp.nil e).2
    exact a3 q (.inl (playedL_mem.2 ⟨by rw [hA.nk]; exact kd_lt hA h2, h2⟩))
theorem lev_ok (hA : A.Ok) : ∀ n, Lv A (n + 1) (lev A n)
  | 0 => by
    obtain ⟨h1, h2⟩ := st0_ok hA
    have hin : Grp A 0 (tabOf (st0 A).tb) (st0 A, []) [] (fun _ _ => False) := ⟨h2, .init, rfl, by simp, by simp, by simp, fun q v hv hno => (by simp only at hv; rw [hno] at hv; cases hv), by simp⟩
    obtain ⟨L', h3⟩ := first_outer hA h1 A.dr (st0 A, []) [] _ (fun _ h => h) hA.dra hin (by simp)
    refine h3.lv hA h1 fun q i v0 q' hq hl hi hx ht => .inr ⟨?_, hi⟩
    have e : v0.2 = [] := List.length_eq_zero_iff.1 hl
    rw [e] at hx
    simpa [Cx.nx] using hx
  | n + 1 => (lev_ok hA n).next hA (by omega)
/-- a chain is no longer than there are places -/
theorem Best.fore (hA : A.Ok) {p q' : Pl} {cs : List Nat} {i : Nat} (h : Best A p (cs ++ [i]) q') : ∃ q, Best A p cs q := by
  obtain ⟨q, a1, a2, a3, a4⟩ := h.1.snoc rfl
  refine ⟨q, a1, fun p' cs' hp' => ?_⟩
  rcases Nat.lt_or_ge cs.length cs'.length with h1 | h1
  · exact .inl h1
  · have hx := Cx.nx_less hA a3 hp' h1
    have h2 := h.2 _ _ (hp'.step a2 hx a4)
    simp only [List.length_append, List.length_cons, List.length_nil] at h2
    have hl : cs'.length = cs.length := by omega
    refine .inr ⟨hl.symm, ?_⟩
    rcases h2 with h2 | ⟨_, h2⟩
    · omega
    · rw [lessB_snoc _ _ hl] at h2
      simpa using h2
theorem Best.places (hA : A.Ok) : ∀ (n : Nat) (p q : Pl) (cs : List Nat), cs.length = n → Best A p cs q → ∃ qs : List Pl, qs.length = n + 1 ∧ qs.Nodup ∧ ∀ r ∈ qs, ∃ cs', cs'.length ≤ n ∧ Best A p cs' r
  | 0, p, q, cs, hn, h => ⟨[q], rfl, by simp, fun r hr => ⟨cs, by omega, by rw [List.mem_singleton.1 hr]; exact h⟩⟩
  | n + 1, p, q, cs, hn, h => by
    have hne : cs ≠ [] := fun e => by simp [e] at hn
    have e := (List.dropLast_concat_getLast hne).symm
    have h' := h
    rw [e] at h'
    obtain ⟨q2, h2⟩ := h'.fore hA
    obtain ⟨qs, b1, b2, b3⟩ := Best.places hA n p q2 _ (by simp [hn]) h2
    refine ⟨q :: qs, by simp [b1], List.nodup_cons.2 ⟨fun hm => ?_, b2⟩, fun r hr => ?_⟩
    · obtain ⟨cs', c1, c2⟩ := b3 q hm
      have := (h.uniq hA c2).2
      rw [this] at hn; omega
    · rcases List.mem_cons.1 hr with rfl | hr
      · exact ⟨cs, by omega, h⟩
      · obtain ⟨cs', c1, c2⟩ := b3 r hr; exact ⟨cs', by omega, c2⟩
theorem nodup_le {l : List Nat} {m : Nat} (hn : l.Nodup) (h : ∀ x ∈ l, x < m) : l.length ≤ m := by
  have h1 : l.length ≤ (List.range m).length := hn.length_le_of_subset fun x hx => List.mem_range.2 (h x hx)
  simpa using h1
theorem Best.short (hA : A.Ok) {p q : Pl} {cs : List Nat} (h : Best A p cs q) : cs.length < 768 := by
  obtain ⟨qs, h1, h2, h3⟩ := Best.places hA _ p q cs rfl h
  have h4 : (qs.map fun r => r.1 * 128 + r.2).Nodup := by
    rw [List.nodup_iff_pairwise_ne, List.pairwise_map]
    refine (List.Pairwise.and_mem.1 (List.nodup_iff_pairwise_ne.1 h2)).imp fun {a b} hab e => ?_
    obtain ⟨ca, _, ha⟩ := h3 a hab.1
    obtain ⟨cb, _, hb⟩ := h3 b hab.2.1
    have := ha.1.key hA
    have := hb.1.key hA
    exact hab.2.2 (Prod.ext (by omega) (by omega))
  have h5 := nodup_le (m := 768) h4 (fun x hx => by
    obtain ⟨r, hr, rfl⟩ := List.mem_map.1 hx
    obtain ⟨cr, _, hb⟩ := h3 r hr
    have := hb.1.key hA
    have := hb.1.lt hA
    have := hA.nd
    omega)
  rw [List.length_map, h1] at h5
  omega
theorem lev_short (hA : A.Ok) {n : Nat} (h : ∃ l ∈ (lev A n).2, l ≠ []) : n < 768 := by
  obtain ⟨l, hl, hne⟩ := h
  obtain ⟨L, g1, g2, g3, g4, g5, g6⟩ := (lev_ok hA n).grp
  rw [g1] at hl
  obtain ⟨g, hg, rfl⟩ := List.mem_map.1 hl
  obtain ⟨q, hq⟩ := List.exists_mem_of_ne_nil _ hne
  obtain ⟨v, hv, hve⟩ := g4 g hg q hq
  have := ((lev_ok hA n).ok.best q v hv).1.short hA
  rw [hve, g2 g hg] at this
  omega
theorem lev_filtered (n : Nat) : ∀ l ∈ (lev A (n + 1)).2, l ≠ [] := fun l hl => by
  simp only [lev, nextG, List.mem_filter, decide_eq_true_eq] at hl
  exact hl.2
theorem lev_go (hA : A.Ok) {n : Nat} (h : (lev A n).2 ≠ []) : n < 768 := by
  cases n with
  | zero => omega
  | succ n =>
    obtain ⟨l, hl⟩ := List.exists_mem_of_ne_nil _ h
    exact lev_short hA ⟨l, hl, lev_filtered n l hl⟩
theorem lev_stays {n : Nat} (h : (lev A n).2 = []) : ∀ k, lev A (n + k) = lev A n
  | 0 => rfl
  | k + 1 => by
    rw [← Nat.add_assoc, lev, lev_stays h k]
    unfold nextG
    rw [h]
    simp only [List.foldl_nil, List.filter_nil]
    exact Prod.ext rfl h.symm
theorem lev_act (hA : A.Ok) {n : Nat} (hn : n ≤ fuelA A) (h : (lev A n).2 = []) : (lev A n).1 = actP A := by
  unfold actP
  have := lev_stays h (fuelA A - n)
  rw [show n + (fuelA A - n) = fuelA A by omega] at this
  rw [this]
theorem act_set (hA : A.Ok) : SetOk A (actP A) := (lev_ok hA (fuelA A)).set
theorem act_chains (hA : A.Ok) : Chains A (tabOf (actP A).tb) := by
  refine (lev_ok hA (fuelA A)).ok.chains hA fun q v hv hl => ?_
  have := ((lev_ok hA (fuelA A)).ok.best q v hv).1.short hA
  unfold fuelA at hl
  omega
end
end Go.Sn
namespace Go.Sn
open Go.Gv
/-! # The checker of specifications, with the names that it has seen -/
def blankS : ByteArray := ⟨#[32]⟩
def kDiv : ByteArray := ⟨#[100, 105, 118, 105, 115, 105, 111, 110]⟩
def kRank : ByteArray := ⟨#[114, 97, 110, 107]⟩
def kCoup : ByteArray := ⟨#[99, 111, 117, 112, 108, 101, 114]⟩
def kStop : ByteArray := ⟨#[115, 116, 111, 112, 32]⟩
def seeKey (kind name : ByteArray) : ByteArray := (kind ++ blankS) ++ name
def namedP (K : List ByteArray) (kind name : ByteArray) : Int := if nameB name = false then 6 else if memB (seeKey kind name) K then 8 else 0
def namedK (K : List ByteArray) (kind name : ByteArray) : List ByteArray := if namedP K kind name = 0 then K ++ [seeKey kind name] else K
def dvE (K : List ByteArray) (d : Dv) : Int := if namedP K kDiv d.name ≠ 0 then namedP K kDiv d.name else if dvBad d then 7 else 0
def dvK (K : List ByteArray) (d : Dv) : List ByteArray := namedK K kDiv d.name
def rkE (K : List ByteArray) (r : Rk) : Int := if namedP K kRank r.name ≠ 0 then namedP K kRank r.name else if rkArg r then 2 else if rkBad r then 7 else 0
def rkK (K : List ByteArray) (r : Rk) : List ByteArray := namedK K kRank r.name
def cpE (nd : Nat) (K : List ByteArray) (c : Cp) : Int := if namedP K kCoup c.name ≠ 0 then namedP K kCoup c.name else if (!idxB c.src nd || !idxB c.dst nd) then 4 else if cpArg c then 2 else 0
def cpK (K : List ByteArray) (c : Cp) : List ByteArray := namedK K kCoup c.name
def decS (i : Nat) : ByteArray := ⟨(Lib.decDigits i).toArray⟩
def stE (nd : Nat) (K : List ByteArray) (x : St) : Int :=
  if nameB x.name = false then 6 else if idxB x.div nd = false then 4 else if namedP K (kStop ++ decS x.div.toNat) x.name ≠ 0 then namedP K (kStop ++ decS x.div.toNat) x.name else if (!feetB x.num x.den || decide (x.ps.length = 0)) then 2 else if decide (12 < x.ps.length) then 3 else 0
def stK (nd : Nat) (K : List ByteArray) (x : St) : List ByteArray := if nameB x.name = false ∨ idxB x.div nd = false then K else namedK K (kStop ++ decS x.div.toNat) x.name
/-- the first error, and the names seen then -/
def runE {α : Type} (E : List ByteArray → α → Int) (G : List ByteArray → α → List ByteArray) : List ByteArray → List α → Nat → (Nat × Int) × List ByteArray
  | K, [], _ => ((0, 0), K)
  | K, x :: l, i => if E K x ≠ 0 then ((i, E K x), G K x) else runE E G (G K x) l (i + 1)
theorem runE_at {α : Type} {E : List ByteArray → α → Int} {G : List ByteArray → α → List ByteArray} {K : List ByteArray} {l : List α} {k : Nat} {x : α} (hx : l[k]? = some x) : runE E G K (l.drop k) k = if E K x ≠ 0 then ((k, E K x), G K x) else runE E G (G K x) (l.drop (k + 1)) (k + 1) := by
  rw [drop_at hx]; rfl
theorem new_ge {w0 w : World} {l : List HL} (ho : Own w0 [] w l) (i : Nat) {x : HL} {b : Nat} (hi : l[i]? = some x) (hb : x.block = some b) : w0.heap.size ≤ b :=
  (ho.place x (List.mem_of_getElem? hi) b hb).resolve_left (by simp)
theorem two_ge {n a b : Nat} (ha : n ≤ a) (hb : n ≤ b) : ∀ c ∈ [a, b], n ≤ c := fun c hc => by
  simp only [List.mem_cons, List.not_mem_nil, or_false] at hc
  rcases hc with rfl | rfl
  · exact ha
  · exact hb
/-- the first error of a part -/
def runP (s : Org) (d : Dv) : List Pt → Nat → Nat × Int
  | [], _ => (0, 0)
  | p :: l, i => if ptErr s.rs d p ≠ 0 then (i, ptErr s.rs d p) else runP s d l (i + 1)
theorem runP_at {s : Org} {d : Dv} {l : List Pt} {k : Nat} {x : Pt} (hx : l[k]? = some x) : runP s d (l.drop k) k = if ptErr s.rs d x ≠ 0 then (k, ptErr s.rs d x) else runP s d (l.drop (k + 1)) (k + 1) := by
  rw [drop_at hx]; rfl
theorem runP_le {s : Org} {d : Dv} : ∀ (l : List Pt) (i : Nat), (runP s d l i).1 ≤ i + l.length
  | [], i => by simp [runP]
  | p :: l, i => by
    have := runP_le (s := s) (d := d) l (i + 1)
    simp only [runP, List.length_cons]
    split
    · simp only; omega
    · omega
def runS (s : Org) : List ByteArray → List St → Nat → (Nat × Nat × Int) × List ByteArray
  | K, [], _ => ((0, 0, 0), K)
  | K, x :: l, i => if stE s.ds.length K x ≠ 0 then ((i, 0, stE s.ds.length K x), stK s.ds.length K x) else
    if (runP s (s.ds.getD x.div.toNat default) x.ps 0).2 ≠ 0 then ((i, (runP s (s.ds.getD x.div.toNat default) x.ps 0).1 + 1, (runP s (s.ds.getD x.div.toNat default) x.ps 0).2), stK s.ds.length K x) else runS s (stK s.ds.length K x) l (i + 1)
theorem runS_at {s : Org} {K : List ByteArray} {l : List St} {k : Nat} {x : St} (hx : l[k]? = some x) : runS s K (l.drop k) k = if stE s.ds.length K x ≠ 0 then ((k, 0, stE s.ds.length K x), stK s.ds.length K x) else
    if (runP s (s.ds.getD x.div.toNat default) x.ps 0).2 ≠ 0 then ((k, (runP s (s.ds.getD x.div.toNat default) x.ps 0).1 + 1, (runP s (s.ds.getD x.div.toNat default) x.ps 0).2), stK s.ds.length K x) else runS s (stK s.ds.length K x) (l.drop (k + 1)) (k + 1) := by
  rw [drop_at hx]; rfl
/-- what spec.Check finds -/
def checkC (s : Org) : Fault × Int :=
  if longB s then (⟨0, 0, 0⟩, 3) else
  if (runE dvE dvK [] s.ds 0).1.2 ≠ 0 then (⟨1, (runE dvE dvK [] s.ds 0).1.1, 0⟩, (runE dvE dvK [] s.ds 0).1.2) else
  if (runE rkE rkK (runE dvE dvK [] s.ds 0).2 s.rs 0).1.2 ≠ 0 then (⟨2, (runE rkE rkK (runE dvE dvK [] s.ds 0).2 s.rs 0).1.1, 0⟩, (runE rkE rkK (runE dvE dvK [] s.ds 0).2 s.rs 0).1.2) else
  if (runS s (runE rkE rkK (runE dvE dvK [] s.ds 0).2 s.rs 0).2 s.ss 0).1.2.2 ≠ 0 then (⟨3, (runS s (runE rkE rkK (runE dvE dvK [] s.ds 0).2 s.rs 0).2 s.ss 0).1.1, (runS s (runE rkE rkK (runE dvE dvK [] s.ds 0).2 s.rs 0).2 s.ss 0).1.2.1⟩, (runS s (runE rkE rkK (runE dvE dvK [] s.ds 0).2 s.rs 0).2 s.ss 0).1.2.2) else
  if (runE (cpE s.ds.length) cpK (runS s (runE rkE rkK (runE dvE dvK [] s.ds 0).2 s.rs 0).2 s.ss 0).2 s.cs 0).1.2 ≠ 0 then (⟨4, (runE (cpE s.ds.length) cpK (runS s (runE rkE rkK (runE dvE dvK [] s.ds 0).2 s.rs 0).2 s.ss 0).2 s.cs 0).1.1, 0⟩, (runE (cpE s.ds.length) cpK (runS s (runE rkE rkK (runE dvE dvK [] s.ds 0).2 s.rs 0).2 s.ss 0).2 s.cs 0).1.2) else (⟨0, 0, 0⟩, 0)
/-- no error: none of them has one -/
theorem runE_ok {α : Type} {E : List ByteArray → α → Int} {G : List ByteArray → α → List ByteArray} : ∀ {l : List α} {K : List ByteArray} {i : Nat}, (runE E G K l i).1.2 = 0 → ∀ x ∈ l, ∃ K', E K' x = 0
  | [], _, _, _, x, hx => by simp at hx
  | y :: l, K, i, h, x, hx => by
    simp only [runE] at h
    split at h
    · rename_i hne; exact absurd h hne
    · rename_i hne
      rcases List.mem_cons.1 hx with rfl | hx
      · exact ⟨K, by omega⟩
      · exact runE_ok h x hx
theorem dvE_ok {K : List ByteArray} {d : Dv} (h : dvE K d = 0) : dvBad d = false := by
  unfold dvE at h
  split at h
  · rename_i h1; exact absurd h h1
  · cases hb : dvBad d with
    | false => rfl
    | true => rw [hb] at h; simp at h
theorem dvBad_no {d : Dv} (h : dvBad d = false) : 0 ≤ d.lo ∧ d.lo ≤ 127 ∧ d.lo ≤ d.hi ∧ d.hi ≤ 127 ∧ d.hi ≤ d.lo + 60 := by
  unfold dvBad at h
  simp only [Bool.not_eq_false', Bool.and_eq_true, decide_eq_true_eq] at h
  omega
theorem rkE_ok {K : List ByteArray} {r : Rk} (h : rkE K r = 0) : rkBad r = false := by
  unfold rkE at h
  split at h
  · rename_i h1; exact absurd h h1
  · split at h
    · omega
    · cases hb : rkBad r with
      | false => rfl
      | true => rw [hb] at h; simp at h
theorem rkBad_no {r : Rk} (h : rkBad r = false) : 0 ≤ r.low ∧ r.low ≤ 127 ∧ 1 ≤ r.count ∧ r.count ≤ 97 ∧ r.low + r.count ≤ 128 := by
  unfold rkBad at h
  simp only [Bool.not_eq_false', Bool.and_eq_true, decide_eq_true_eq] at h
  omega
theorem stE_idx {nd : Nat} {K : List ByteArray} {x : St} (h : stE nd K x = 0) : 0 ≤ x.div ∧ x.div < nd := by
  unfold stE at h
  split at h
  · omega
  · split at h
    · omega
    · rename_i h2
      unfold idxB at h2
      simpa using h2
theorem dvErr_ok {l : List Dv} {i : Nat} (h : dvErr l i = 0) : dvBad (l.getD i default) = false := by
  unfold dvErr at h
  split at h
  · omega
  · split at h
    · omega
    · cases hb : dvBad (l.getD i default) with
      | false => rfl
      | true => rw [hb] at h; simp at h
theorem rkErr_ok {l : List Rk} {i : Nat} (h : rkErr l i = 0) : rkBad (l.getD i default) = false := by
  unfold rkErr at h
  split at h
  · omega
  · split at h
    · omega
    · split at h
      · omega
      · cases hb : rkBad (l.getD i default) with
        | false => rfl
        | true => rw [hb] at h; simp at h
theorem stErr_idx {nd : Nat} {l : List St} {i : Nat} (h : stErr nd l i = 0) : 0 ≤ (l.getD i default).div ∧ (l.getD i default).div < nd := by
  unfold stErr at h
  simp only at h
  split at h
  · omega
  · split at h
    · omega
    · rename_i h2
      unfold idxB at h2
      simpa using h2
end Go.Sn
namespace Go.Sn
open Go.Gv
/-! # The checker with its names finds what the document says -/
theorem ba_ext {a b : ByteArray} (h : a.data.toList = b.data.toList) : a = b := by
  obtain ⟨x⟩ := a
  obtain ⟨y⟩ := b
  have : x = y := Array.toList_inj.1 h
  rw [this]
theorem app_list (a b : ByteArray) : (a ++ b).data.toList = a.data.toList ++ b.data.toList := by
  rw [ByteArray.data_append]; simp
theorem last_blank {α : Type} {z : α} : ∀ {a b x y : List α}, a ++ z :: x = b ++ z :: y → z ∉ x → z ∉ y → a = b ∧ x = y
  | [], [], x, y, h, _, _ => by simp at h; exact ⟨rfl, h⟩
  | [], c :: b, x, y, h, hx, _ => by
    simp only [List.nil_append, List.cons_append, List.cons.injEq] at h
    exact absurd (by rw [h.2]; simp) hx
  | c :: a, [], x, y, h, _, hy => by
    simp only [List.nil_append, List.cons_append, List.cons.injEq] at h
    exact absurd (by rw [← h.2]; simp) hy
  | c :: a, d :: b, x, y, h, hx, hy => by
    simp only [List.cons_append, List.cons.injEq] at h
    obtain ⟨h1, h2⟩ := last_blank h.2 hx hy
    exact ⟨by rw [h.1, h1], h2⟩
theorem name_blank {s : ByteArray} (h : nameB s = true) : (32 : UInt8) ∉ s.data.toList := fun hm => by
  unfold nameB at h
  simp only [Bool.and_eq_true, List.all_eq_true, List.mem_range] at h
  obtain ⟨i, hi, he⟩ := List.getElem_of_mem hm
  have h1 := h.2 i (by simpa using hi)
  have h2 : byteAt s i = 32 := by
    have hi' : i < s.data.size := by simpa using hi
    unfold byteAt
    rw [Array.getD_eq_getD_getElem?, Array.getElem?_eq_getElem hi']
    have : s.data[i] = 32 := by simpa using he
    simp [this]
  unfold okAt letterB digitB at h1
  rw [h2] at h1
  simp at h1
theorem seeKey_inj {k1 k2 n1 n2 : ByteArray} (h1 : nameB n1 = true) (h2 : nameB n2 = true) (h : seeKey k1 n1 = seeKey k2 n2) : k1 = k2 ∧ n1 = n2 := by
  have h3 := congrArg (fun b : ByteArray => b.data.toList) h
  simp only [seeKey, app_list] at h3
  have e : blankS.data.toList = [32] := rfl
  rw [e, List.append_assoc, List.append_assoc] at h3
  obtain ⟨a, b⟩ := last_blank (z := (32 : UInt8)) h3 (name_blank h1) (name_blank h2)
  exact ⟨ba_ext a, ba_ext b⟩
/-- what has been seen -/
structure Kn (K : List ByteArray) (Pk : ByteArray → ByteArray → Prop) : Prop where
  of : ∀ key ∈ K, ∃ kd nm, key = seeKey kd nm ∧ nameB nm = true ∧ Pk kd nm
  to : ∀ kd nm, Pk kd nm → seeKey kd nm ∈ K
theorem Kn.mem {K : List ByteArray} {Pk : ByteArray → ByteArray → Prop} (h : Kn K Pk) {kd nm : ByteArray} (hn : nameB nm = true) : memB (seeKey kd nm) K = true ↔ Pk kd nm := by
  rw [memB_iff]
  constructor
  · intro hm
    obtain ⟨k2, n2, e, hn2, hp⟩ := h.of _ hm
    obtain ⟨rfl, rfl⟩ := seeKey_inj hn hn2 e
    exact hp
  · exact h.to kd nm
theorem Kn.nil : Kn [] (fun _ _ => False) := ⟨fun _ h => by simp at h, fun _ _ h => h.elim⟩
theorem Kn.iff {K : List ByteArray} {Pk Pk' : ByteArray → ByteArray → Prop} (h : Kn K Pk) (hi : ∀ a b, Pk a b ↔ Pk' a b) : Kn K Pk' :=
  ⟨fun key hk => by obtain ⟨a, b, c, d, e⟩ := h.of key hk; exact ⟨a, b, c, d, (hi a b).1 e⟩, fun a b hp => h.to a b ((hi a b).2 hp)⟩
theorem Kn.put {K : List ByteArray} {Pk : ByteArray → ByteArray → Prop} (h : Kn K Pk) {kd nm : ByteArray} (h0 : namedP K kd nm = 0) : Kn (namedK K kd nm) (fun a b => Pk a b ∨ (a = kd ∧ b = nm)) := by
  have hn : nameB nm = true := by
    unfold namedP at h0
    split at h0
    · omega
    · rename_i h1; simpa using h1
  unfold namedK
  rw [if_pos h0]
  refine ⟨fun key hk => ?_, fun a b hp => ?_⟩
  · rcases List.mem_append.1 hk with hk | hk
    · obtain ⟨a, b, c, d, e⟩ := h.of key hk
      exact ⟨a, b, c, d, .inl e⟩
    · exact ⟨kd, nm, List.mem_singleton.1 hk, hn, .inr ⟨rfl, rfl⟩⟩
  · rcases hp with hp | ⟨rfl, rfl⟩
    · exact List.mem_append_left _ (h.to a b hp)
    · exact List.mem_append_right _ (by simp)
theorem Kn.named {K : List ByteArray} {Pk : ByteArray → ByteArray → Prop} (h : Kn K Pk) (kd nm : ByteArray) : namedP K kd nm = if nameB nm = false then 6 else (open Classical in if Pk kd nm then 8 else 0) := by
  unfold namedP
  split
  · rfl
  · rename_i h1
    have hn : nameB nm = true := by simpa using h1
    by_cases hp : Pk kd nm
    · rw [if_pos hp, if_pos ((h.mem hn).2 hp)]
    · rw [if_neg hp, if_neg (fun hm => hp ((h.mem hn).1 hm))]
theorem runE_first {α : Type} {E : List ByteArray → α → Int} {G : List ByteArray → α → List ByteArray} {l : List α} (err : Nat → Int) (I : Nat → List ByteArray → Prop)
    (hI : ∀ i K x, l[i]? = some x → I i K → E K x = err i ∧ (err i = 0 → I (i + 1) (G K x))) :
    ∀ (n i : Nat) (K : List ByteArray), i + n = l.length → I i K →
      (∃ k, firstO (fun i => errO (err i)) n i = some (k, 0, err k) ∧ (runE E G K (l.drop i) i).1 = (k, err k) ∧ err k ≠ 0) ∨
      (firstO (fun i => errO (err i)) n i = none ∧ (runE E G K (l.drop i) i).1 = (0, 0) ∧ I l.length (runE E G K (l.drop i) i).2)
  | 0, i, K, hn, hi => by
    right
    rw [List.drop_eq_nil_of_le (by omega)]
    exact ⟨rfl, rfl, by rw [← hn]; exact hi⟩
  | n + 1, i, K, hn, hi => by
    obtain ⟨x, hx⟩ := get_some (show i < l.length by omega)
    obtain ⟨h1, h2⟩ := hI i K x hx hi
    rw [runE_at hx, h1]
    by_cases he : err i = 0
    · have e0 : errO (err i) = none := by unfold errO; rw [if_pos he]
      simp only [firstO, e0]
      rw [if_neg (by omega)]
      exact runE_first err I hI n (i + 1) (G K x) (by omega) (h2 he)
    · have e0 : errO (err i) = some (0, err i) := by unfold errO; rw [if_neg he]
      simp only [firstO, e0]
      rw [if_pos he]
      exact .inl ⟨i, rfl, rfl, he⟩
theorem twice_iff {names : Nat → ByteArray} {i : Nat} : twice names i = true ↔ ∃ k, k < i ∧ names k = names i := by
  unfold twice
  rw [List.any_eq_true]
  constructor
  · rintro ⟨k, hk, he⟩; exact ⟨k, List.mem_range.1 hk, of_decide_eq_true he⟩
  · rintro ⟨k, hk, he⟩; exact ⟨k, List.mem_range.2 hk, decide_eq_true he⟩
/-- the names of one kind so far, beside others -/
def Pn (Q : ByteArray → ByteArray → Prop) (kind : ByteArray) (names : Nat → ByteArray) (i : Nat) : ByteArray → ByteArray → Prop := fun a b => Q a b ∨ (a = kind ∧ ∃ j, j < i ∧ names j = b)
theorem Pn_succ {Q : ByteArray → ByteArray → Prop} {kind : ByteArray} {names : Nat → ByteArray} {i : Nat} (a b : ByteArray) : (Pn Q kind names i a b ∨ (a = kind ∧ b = names i)) ↔ Pn Q kind names (i + 1) a b := by
  unfold Pn
  constructor
  · rintro ((h | ⟨rfl, j, hj, rfl⟩) | ⟨rfl, rfl⟩)
    · exact .inl h
    · exact .inr ⟨rfl, j, by omega, rfl⟩
    · exact .inr ⟨rfl, i, by omega, rfl⟩
  · rintro (h | ⟨rfl, j, hj, rfl⟩)
    · exact .inl (.inl h)
    · rcases Nat.lt_or_eq_of_le (Nat.le_of_lt_succ hj) with h | rfl
      · exact .inl (.inr ⟨rfl, j, h, rfl⟩)
      · exact .inr ⟨rfl, rfl⟩
theorem Pn_named {Q : ByteArray → ByteArray → Prop} {kind : ByteArray} {names : Nat → ByteArray} {i : Nat} {K : List ByteArray} (h : Kn K (Pn Q kind names i)) (hQ : ∀ b, ¬ Q kind b) : namedP K kind (names i) = if nameB (names i) = false then 6 else if twice names i = true then 8 else 0 := by
  rw [h.named]
  by_cases h1 : nameB (names i) = false
  · simp only [if_pos h1]
  · simp only [if_neg h1]
    have e : Pn Q kind names i kind (names i) ↔ twice names i = true := by
      rw [twice_iff]
      unfold Pn
      constructor
      · rintro (h2 | ⟨_, h2⟩)
        · exact absurd h2 (hQ _)
        · exact h2
      · intro h2; exact .inr ⟨rfl, h2⟩
    by_cases h2 : twice names i = true
    · rw [if_pos h2, if_pos (e.2 h2)]
    · rw [if_neg h2, if_neg (fun h3 => h2 (e.1 h3))]
theorem dv_step {s : Org} {i : Nat} {K : List ByteArray} {x : Dv} (hx : s.ds[i]? = some x) (h : Kn K (Pn (fun _ _ => False) kDiv (dvN s.ds) i)) : dvE K x = dvErr s.ds i ∧ (dvErr s.ds i = 0 → Kn (dvK K x) (Pn (fun _ _ => False) kDiv (dvN s.ds) (i + 1))) := by
  have hd := getD_some (d := default) hx
  have hn : dvN s.ds i = x.name := by unfold dvN; rw [hd]
  have h1 := Pn_named h (fun _ h => h)
  rw [hn] at h1
  have he : dvE K x = dvErr s.ds i := by
    unfold dvE dvErr
    rw [h1, hn, hd]
    cases nameB x.name <;> cases twice (dvN s.ds) i <;> simp
  refine ⟨he, fun h0 => ?_⟩
  rw [← he] at h0
  have h2 : namedP K kDiv x.name = 0 := by
    unfold dvE at h0
    split at h0
    · rename_i h3; exact absurd h0 h3
    · rename_i h3; omega
  have := h.put h2
  rw [← hn] at this
  unfold dvK
  rw [← hn]
  exact this.iff (fun a b => Pn_succ a b)
theorem rk_step {s : Org} {Q : ByteArray → ByteArray → Prop} (hQ : ∀ b, ¬ Q kRank b) {i : Nat} {K : List ByteArray} {x : Rk} (hx : s.rs[i]? = some x) (h : Kn K (Pn Q kRank (rkN s.rs) i)) : rkE K x = rkErr s.rs i ∧ (rkErr s.rs i = 0 → Kn (rkK K x) (Pn Q kRank (rkN s.rs) (i + 1))) := by
  have hd := getD_some (d := default) hx
  have hn : rkN s.rs i = x.name := by unfold rkN; rw [hd]
  have h1 := Pn_named h hQ
  rw [hn] at h1
  have he : rkE K x = rkErr s.rs i := by
    unfold rkE rkErr
    rw [h1, hn, hd]
    cases nameB x.name <;> cases twice (rkN s.rs) i <;> simp
  refine ⟨he, fun h0 => ?_⟩
  rw [← he] at h0
  have h2 : namedP K kRank x.name = 0 := by
    unfold rkE at h0
    split at h0
    · rename_i h3; exact absurd h0 h3
    · rename_i h3; omega
  have := h.put h2
  rw [← hn] at this
  unfold rkK
  rw [← hn]
  exact this.iff (fun a b => Pn_succ a b)
theorem cp_step {s : Org} {Q : ByteArray → ByteArray → Prop} (hQ : ∀ b, ¬ Q kCoup b) {i : Nat} {K : List ByteArray} {x : Cp} (hx : s.cs[i]? = some x) (h : Kn K (Pn Q kCoup (cpN s.cs) i)) : cpE s.ds.length K x = cpErr s.ds.length s.cs i ∧ (cpErr s.ds.length s.cs i = 0 → Kn (cpK K x) (Pn Q kCoup (cpN s.cs) (i + 1))) := by
  have hd := getD_some (d := default) hx
  have hn : cpN s.cs i = x.name := by unfold cpN; rw [hd]
  have h1 := Pn_named h hQ
  rw [hn] at h1
  have he : cpE s.ds.length K x = cpErr s.ds.length s.cs i := by
    unfold cpE cpErr
    rw [h1, hn, hd]
    cases nameB x.name <;> cases twice (cpN s.cs) i <;> simp
  refine ⟨he, fun h0 => ?_⟩
  rw [← he] at h0
  have h2 : namedP K kCoup x.name = 0 := by
    unfold cpE at h0
    split at h0
    · rename_i h3; exact absurd h0 h3
    · rename_i h3; omega
  have := h.put h2
  rw [← hn] at this
  unfold cpK
  rw [← hn]
  exact this.iff (fun a b => Pn_succ a b)
theorem decS_list {i : Nat} (h : i < 10) : (decS i).data.toList = [UInt8.ofNat (48 + i)] := by
  show (Lib.decDigits i).toArray.toList = _
  rw [Lib.decDigits_one h]
theorem kStop_inj {i j : Nat} (hi : i < 10) (hj : j < 10) (h : kStop ++ decS i = kStop ++ decS j) : i = j := by
  have h1 := congrArg (fun b : ByteArray => b.data.toList) h
  simp only [app_list, decS_list hi, decS_list hj] at h1
  have h2 := List.append_cancel_left h1
  simp only [List.cons.injEq, and_true] at h2
  have h3 := congrArg UInt8.toNat h2
  simp only [UInt8.toNat_ofNat'] at h3
  omega
theorem head_ne {a b : ByteArray} (h : a.data.toList.head? ≠ b.data.toList.head?) : a ≠ b := fun e => h (by rw [e])
theorem kStop_head (i : Nat) : (kStop ++ decS i).data.toList.head? = some 115 := by
  rw [app_list]; rfl
theorem kStop_ne_div (i : Nat) : kStop ++ decS i ≠ kDiv := head_ne (by rw [kStop_head]; decide)
theorem kStop_ne_rank (i : Nat) : kStop ++ decS i ≠ kRank := head_ne (by rw [kStop_head]; decide)
theorem kStop_ne_coup (i : Nat) : kStop ++ decS i ≠ kCoup := head_ne (by rw [kStop_head]; decide)
theorem kRank_ne_div : kRank ≠ kDiv := head_ne (by decide)
theorem kCoup_ne_div : kCoup ≠ kDiv := head_ne (by decide)
theorem kCoup_ne_rank : kCoup ≠ kRank := head_ne (by decide)
/-- the stops' names so far, by divisions -/
def Ps (Q : ByteArray → ByteArray → Prop) (l : List St) (i : Nat) : ByteArray → ByteArray → Prop := fun a b => Q a b ∨ ∃ j, j < i ∧ a = kStop ++ decS (l.getD j default).div.toNat ∧ b = (l.getD j default).name
theorem stTwice_iff {l : List St} {i : Nat} : stTwice l i = true ↔ ∃ k, k < i ∧ (l.getD k default).div = (l.getD i default).div ∧ (l.getD k default).name = (l.getD i default).name := by
  unfold stTwice
  rw [List.any_eq_true]
  constructor
  · rintro ⟨k, hk, he⟩
    simp only [Bool.and_eq_true, decide_eq_true_eq] at he
    exact ⟨k, List.mem_range.1 hk, he⟩
  · rintro ⟨k, hk, he⟩
    exact ⟨k, List.mem_range.2 hk, by simp only [Bool.and_eq_true, decide_eq_true_eq]; exact he⟩
structure SInv (s : Org) (Q : ByteArray → ByteArray → Prop) (i : Nat) (K : List ByteArray) : Prop where
  kn : Kn K (Ps Q s.ss i)
  dv : ∀ j, j < i → 0 ≤ (s.ss.getD j default).div ∧ (s.ss.getD j default).div < s.ds.length
theorem st_step {s : Org} (hn6 : s.ds.length ≤ 6) {Q : ByteArray → ByteArray → Prop} (hQ : ∀ i b, ¬ Q (kStop ++ decS i) b) {i : Nat} {K : List ByteArray} {x : St} (hx : s.ss[i]? = some x) (h : SInv s Q i K) : stE s.ds.length K x = stErr s.ds.length s.ss i ∧ (stErr s.ds.length s.ss i = 0 → SInv s Q (i + 1) (stK s.ds.length K x)) := by
  have hd := getD_some (d := default) hx
  have hk : nameB x.name = true → idxB x.div s.ds.length = true → namedP K (kStop ++ decS x.div.toNat) x.name = if stTwice s.ss i = true then 8 else 0 := fun hn hi => by
    have hi2 : 0 ≤ x.div ∧ x.div < s.ds.length := by unfold idxB at hi; simpa using hi
    rw [h.kn.named, if_neg (by rw [hn]; decide)]
    have e : Ps Q s.ss i (kStop ++ decS x.div.toNat) x.name ↔ stTwice s.ss i = true := by
      rw [stTwice_iff, hd]
      unfold Ps
      constructor
      · rintro (h2 | ⟨j, hj, e1, e2⟩)
        · exact absurd h2 (hQ _ _)
        · have hdj := h.dv j hj
          have := kStop_inj (by omega) (by omega) e1
          exact ⟨j, hj, by omega, e2.symm⟩
      · rintro ⟨j, hj, e1, e2⟩
        exact .inr ⟨j, hj, by rw [e1], e2.symm⟩
    by_cases h2 : stTwice s.ss i = true
    · rw [if_pos h2, if_pos (e.2 h2)]
    · rw [if_neg h2, if_neg (fun h3 => h2 (e.1 h3))]
  have he : stE s.ds.length K x = stErr s.ds.length s.ss i := by
    unfold stE stErr
    rw [hd]
    simp only
    by_cases h1 : nameB x.name = false
    · rw [if_pos h1, if_pos h1]
    · rw [if_neg h1, if_neg h1]
      by_cases h2 : idxB x.div s.ds.length = false
      · rw [if_pos h2, if_pos h2]
      · rw [if_neg h2, if_neg h2, hk (by simpa using h1) (by simpa using h2)]
        cases stTwice s.ss i <;> simp
  refine ⟨he, fun h0 => ?_⟩
  rw [← he] at h0
  have hidx := stE_idx h0
  have h0' := h0
  unfold stE at h0
  split at h0
  · omega
  · rename_i h1
    split at h0
    · omega
    · rename_i h2
      split at h0
      · rename_i h3; exact absurd h0 h3
      · rename_i h3
        have h4 := h.kn.put (show namedP K (kStop ++ decS x.div.toNat) x.name = 0 by omega)
        have e : stK s.ds.length K x = namedK K (kStop ++ decS x.div.toNat) x.name := by unfold stK; rw [if_neg (by rintro (h5 | h5); exact h1 h5; exact h2 h5)]
        rw [e]
        refine ⟨h4.iff fun a b => ?_, fun j hj => ?_⟩
        · unfold Ps
          constructor
          · rintro ((h5 | ⟨j, hj, e1, e2⟩) | ⟨e1, e2⟩)
            · exact .inl h5
            · exact .inr ⟨j, by omega, e1, e2⟩
            · exact .inr ⟨i, by omega, by rw [hd]; exact e1, by rw [hd]; exact e2⟩
          · rintro (h5 | ⟨j, hj, e1, e2⟩)
            · exact .inl (.inl h5)
            · rcases Nat.lt_or_eq_of_le (Nat.le_of_lt_succ hj) with h6 | rfl
              · exact .inl (.inr ⟨j, h6, e1, e2⟩)
              · rw [hd] at e1 e2; exact .inr ⟨e1, e2⟩
        · rcases Nat.lt_or_eq_of_le (Nat.le_of_lt_succ hj) with h6 | rfl
          · exact h.dv j h6
          · rw [hd]; exact hidx
theorem runP_first {s : Org} {d : Dv} {l : List Pt} : ∀ (n i : Nat), i + n = l.length →
    (∃ k, firstO (fun k => if ptErr s.rs d (l.getD k default) = 0 then none else some (ptErr s.rs d (l.getD k default))) n i = some (k, ptErr s.rs d (l.getD k default)) ∧ runP s d (l.drop i) i = (k, ptErr s.rs d (l.getD k default)) ∧ ptErr s.rs d (l.getD k default) ≠ 0) ∨
    (firstO (fun k => if ptErr s.rs d (l.getD k default) = 0 then none else some (ptErr s.rs d (l.getD k default))) n i = none ∧ (runP s d (l.drop i) i).2 = 0)
  | 0, i, hn => .inr ⟨rfl, by rw [List.drop_eq_nil_of_le (by omega)]; rfl⟩
  | n + 1, i, hn => by
    obtain ⟨x, hx⟩ := get_some (show i < l.length by omega)
    have hd := getD_some (d := default) hx
    rw [runP_at hx]
    by_cases he : ptErr s.rs d x = 0
    · have e0 : (if ptErr s.rs d (l.getD i default) = 0 then none else some (ptErr s.rs d (l.getD i default))) = none := by rw [hd, if_pos he]
      simp only [firstO, e0]
      rw [if_neg (by omega)]
      exact runP_first n (i + 1) (by omega)
    · have e0 : (if ptErr s.rs d (l.getD i default) = 0 then none else some (ptErr s.rs d (l.getD i default))) = some (ptErr s.rs d x) := by rw [hd, if_neg he]
      simp only [firstO, e0]
      rw [if_pos he]
      exact .inl ⟨i, by rw [hd], by rw [hd], by rw [hd]; exact he⟩
theorem runS_first {s : Org} (hn6 : s.ds.length ≤ 6) {Q : ByteArray → ByteArray → Prop} (hQ : ∀ i b, ¬ Q (kStop ++ decS i) b) :
    ∀ (n i : Nat) (K : List ByteArray), i + n = s.ss.length → SInv s Q i K →
      (∃ k p e, firstO (stO s) n i = some (k, p, e) ∧ (runS s K (s.ss.drop i) i).1 = (k, p, e) ∧ e ≠ 0) ∨
      (firstO (stO s) n i = none ∧ (runS s K (s.ss.drop i) i).1 = (0, 0, 0) ∧ SInv s Q s.ss.length (runS s K (s.ss.drop i) i).2)
  | 0, i, K, hn, hi => by
    right
    rw [List.drop_eq_nil_of_le (by omega)]
    exact ⟨rfl, rfl, by rw [← hn]; exact hi⟩
  | n + 1, i, K, hn, hi => by
    obtain ⟨x, hx⟩ := get_some (show i < s.ss.length by omega)
    have hd := getD_some (d := default) hx
    obtain ⟨h1, h2⟩ := st_step hn6 hQ hx hi
    rw [runS_at hx, h1]
    by_cases he : stErr s.ds.length s.ss i = 0
    · rw [if_neg (by omega)]
      rcases runP_first (s := s) (d := s.ds.getD x.div.toNat default) (l := x.ps) x.ps.length 0 (by omega) with ⟨k, f1, f2, f3⟩ | ⟨f1, f2⟩
      · rw [List.drop_zero] at f2
        have e0 : stO s i = some (k + 1, ptErr s.rs (s.ds.getD x.div.toNat default) (x.ps.getD k default)) := by
          unfold stO
          rw [if_neg (by omega), hd]
          simp only
          rw [f1]
        simp only [firstO, e0]
        rw [f2, if_pos f3]
        exact .inl ⟨i, _, _, rfl, rfl, f3⟩
      · rw [List.drop_zero] at f2
        have e0 : stO s i = none := by
          unfold stO
          rw [if_neg (by omega), hd]
          simp only
          rw [f1]
        simp only [firstO, e0]
        rw [if_neg (by omega)]
        exact runS_first hn6 hQ n (i + 1) _ (by omega) (h2 he)
    · have e0 : stO s i = some (0, stErr s.ds.length s.ss i) := by unfold stO; rw [if_pos he]
      simp only [firstO, e0]
      rw [if_pos he]
      exact .inl ⟨i, _, _, rfl, rfl, he⟩
theorem checkC_eq (s : Org) : checkC s = checkP s := by
  unfold checkC checkP
  by_cases hl : longB s = true
  · rw [if_pos hl, if_pos hl]
  · rw [if_neg hl, if_neg hl]
    have hn6 : s.ds.length ≤ 6 := by
      unfold longB at hl
      simp at hl
      omega
    have hD := runE_first (E := dvE) (G := dvK) (l := s.ds) (dvErr s.ds) (fun i K => Kn K (Pn (fun _ _ => False) kDiv (dvN s.ds) i)) (fun i K x hx h => dv_step hx h) s.ds.length 0 [] (by omega) (Kn.nil.iff fun a b => by unfold Pn; constructor; exact fun h => .inl h; rintro (h | ⟨_, j, hj, _⟩); exact h; omega)
    rw [List.drop_zero] at hD
    rcases hD with ⟨k, d1, d2, d3⟩ | ⟨d1, d2, d3⟩
    · rw [d1, d2, if_pos d3]
    · rw [d1, d2, if_neg (by decide)]
      obtain ⟨KD, hKD⟩ : ∃ K, (runE dvE dvK [] s.ds 0).2 = K := ⟨_, rfl⟩
      rw [hKD] at d3 ⊢
      simp only
      have hR := runE_first (E := rkE) (G := rkK) (l := s.rs) (rkErr s.rs) (fun i K => Kn K (Pn (Pn (fun _ _ => False) kDiv (dvN s.ds) s.ds.length) kRank (rkN s.rs) i)) (fun i K x hx h => rk_step (fun b h => by rcases h with h | ⟨h, _⟩; exact h; exact kRank_ne_div h) hx h) s.rs.length 0 KD (by omega) (d3.iff fun a b => by constructor; exact fun h => .inl h; rintro (h | ⟨_, j, hj, _⟩); exact h; omega)
      rw [List.drop_zero] at hR
      rcases hR with ⟨k, r1, r2, r3⟩ | ⟨r1, r2, r3⟩
      · rw [r1, r2, if_pos r3]
      · rw [r1, r2, if_neg (by decide)]
        obtain ⟨KR, hKR⟩ : ∃ K, (runE rkE rkK KD s.rs 0).2 = K := ⟨_, rfl⟩
        rw [hKR] at r3 ⊢
        simp only
        have hS := runS_first hn6 (Q := Pn (Pn (fun _ _ => False) kDiv (dvN s.ds) s.ds.length) kRank (rkN s.rs) s.rs.length) (fun i b h => by rcases h with (h | ⟨h, _⟩) | ⟨h, _⟩; exact h; exact kStop_ne_div i h; exact kStop_ne_rank i h) s.ss.length 0 KR (by omega) ⟨r3.iff fun a b => by constructor; exact fun h => .inl h; rintro (h | ⟨j, hj, _⟩); exact h; omega, fun j hj => by omega⟩
        rw [List.drop_zero] at hS
        rcases hS with ⟨k, p, e, s1, s2, s3⟩ | ⟨s1, s2, s3⟩
        · rw [s1, s2, if_pos s3]
        · rw [s1, s2, if_neg (by decide)]
          obtain ⟨KS, hKS⟩ : ∃ K, (runS s KR s.ss 0).2 = K := ⟨_, rfl⟩
          rw [hKS] at s3 ⊢
          simp only
          have hC := runE_first (E := cpE s.ds.length) (G := cpK) (l := s.cs) (cpErr s.ds.length s.cs) (fun i K => Kn K (Pn (Ps (Pn (Pn (fun _ _ => False) kDiv (dvN s.ds) s.ds.length) kRank (rkN s.rs) s.rs.length) s.ss s.ss.length) kCoup (cpN s.cs) i)) (fun i K x hx h => cp_step (fun b h => by rcases h with ((h | ⟨h, _⟩) | ⟨h, _⟩) | ⟨j, _, h, _⟩; exact h; exact kCoup_ne_div h; exact kCoup_ne_rank h; exact kStop_ne_coup _ h.symm) hx h) s.cs.length 0 KS (by omega) (s3.kn.iff fun a b => by constructor; exact fun h => .inl h; rintro (h | ⟨_, j, hj, _⟩); exact h; omega)
          rw [List.drop_zero] at hC
          rcases hC with ⟨k, c1, c2, c3⟩ | ⟨c1, c2, c3⟩
          · rw [c1, c2, if_pos c3]
          · rw [c1, c2, if_neg (by decide)]
end Go.Sn
namespace Go.Sn
open Go.Gv
/-! # Hands -/
structure KR where
  a : Option Addr
  c : Nat
  ks : List Int
  deriving Inhabited
def KR.cell (r : KR) : Value := .slice r.a r.ks.length r.c
structure Hd where
  ka : Option Addr
  kc : Nat
  ks : List KR
  sa : Option Addr
  sc : Nat
  ss : List Int
  ca : Option Addr
  cc : Nat
  cs : List Int
abbrev Hd.val (h : Hd) : Value := .agg #[.slice h.ka h.ks.length h.kc, .slice h.sa h.ss.length h.sc, .slice h.ca h.cs.length h.cc]
structure HdIn (h : Hd) (w : World) (S : List Nat) : Prop where
  k : OldSl w S h.ka h.ks.length 1 (h.ks.map KR.cell)
  r : ∀ x ∈ h.ks, OldSl w S x.a x.ks.length 1 (x.ks.map intV)
  t : OldSl w S h.sa h.ss.length 1 (h.ss.map intV)
  c : OldSl w S h.ca h.cs.length 1 (h.cs.map intV)
structure HdLe (h : Hd) : Prop where
  k : h.ks.length ≤ 140737488355328
  r : ∀ x ∈ h.ks, x.ks.length ≤ 140737488355328
  kc : ∀ x ∈ h.ks, x.ks.length ≤ x.c
  t : h.ss.length ≤ 140737488355328
  c : h.cs.length ≤ 140737488355328
theorem HdIn.at {h : Hd} {w0 w : World} {S : List Nat} {l : List HL} (hh : HdIn h w0 S) (ho : Own w0 S w l) : HdIn h w [] := ⟨hh.k.at ho, fun x hx => (hh.r x hx).at ho, hh.t.at ho, hh.c.at ho⟩
theorem HdIn.atS {h : Hd} {w0 w : World} {S Sc : List Nat} {l : List HL} (hh : HdIn h w0 S) (ho : Own w0 S w l) (hlt : ∀ b ∈ Sc, w0.heap.size ≤ b) : HdIn h w Sc := ⟨hh.k.atS ho (by decide) hlt, fun x hx => (hh.r x hx).atS ho (by decide) hlt, hh.t.atS ho (by decide) hlt, hh.c.atS ho (by decide) hlt⟩
def riseAt (l : List Int) (lo hi bad : Int) (i : Nat) : Int := if l.getD i 0 < lo ∨ hi < l.getD i 0 then bad else if 0 < i ∧ l.getD i 0 ≤ l.getD (i - 1) 0 then 8 else 0
def riseP (l : List Int) (lo hi bad : Int) : Int := match firstO (fun i => errO (riseAt l lo hi bad i)) l.length 0 with
  | some (_, _, e) => e
  | none => 0
theorem riseP_stop {l : List Int} {lo hi bad : Int} {k : Nat} (hk : k < l.length) (h : ∀ j, j < k → riseAt l lo hi bad j = 0) (he : riseAt l lo hi bad k ≠ 0) : riseP l lo hi bad = riseAt l lo hi bad k := by
  unfold riseP
  rw [firstO_stop _ (0, riseAt l lo hi bad k) _ 0 k (Nat.zero_le _) (by omega) (fun j _ hj => by show errO _ = none; unfold errO; rw [if_pos (h j hj)]) (by show errO _ = _; unfold errO; rw [if_neg he])]
theorem riseP_none {l : List Int} {lo hi bad : Int} (h : ∀ j, j < l.length → riseAt l lo hi bad j = 0) : riseP l lo hi bad = 0 := by
  unfold riseP
  rw [firstO_none _ _ 0 (fun j _ hj => by show errO _ = none; unfold errO; rw [if_pos (h j (by omega))])]
theorem riseP_ok {l : List Int} {lo hi bad : Int} (hb : bad ≠ 0) (h : riseP l lo hi bad = 0) : ∀ j, j < l.length → riseAt l lo hi bad j = 0 := by
  unfold riseP at h
  split at h
  · rename_i i k e he
    obtain ⟨_, _, h1, _⟩ := firstO_some he
    unfold errO at h1
    split at h1
    · cases h1
    · rename_i h2
      simp only [Option.some.injEq, Prod.mk.injEq] at h1
      omega
  · rename_i he
    intro j hj
    have := firstO_none_iff he j (Nat.zero_le _) (by omega)
    unfold errO at this
    split at this
    · assumption
    · cases this
def keyErr (s : Org) (h : Hd) (i : Nat) : Int := riseP (h.ks.getD i default).ks (s.ds.getD i default).lo (s.ds.getD i default).hi 7
def handErr (s : Org) (h : Hd) : Int :=
  if (checkP s).2 ≠ 0 then (checkP s).2 else
  if h.ks.length ≠ s.ds.length then 2 else
  match firstO (fun i => errO (keyErr s h i)) s.ds.length 0 with
  | some (_, _, e) => e
  | none => if riseP h.ss 0 ((s.ss.length : Int) - 1) 4 ≠ 0 then riseP h.ss 0 ((s.ss.length : Int) - 1) 4 else riseP h.cs 0 ((s.cs.length : Int) - 1) 4
/-- hands of which all is well -/
structure KN where
  a : Option Addr
  c : Nat
  ks : List Nat
  deriving Inhabited
def KN.kr (r : KN) : KR := ⟨r.a, r.c, r.ks.map (fun n : Nat => (n : Int))⟩
structure HN where
  ka : Option Addr
  kc : Nat
  ks : List KN
  sa : Option Addr
  sc : Nat
  ss : List Nat
  ca : Option Addr
  cc : Nat
  cs : List Nat
def HN.hd (h : HN) : Hd := ⟨h.ka, h.kc, h.ks.map KN.kr, h.sa, h.sc, h.ss.map (fun n : Nat => (n : Int)), h.ca, h.cc, h.cs.map (fun n : Nat => (n : Int))⟩
def KN.cell (r : KN) : Value := .slice r.a r.ks.length r.c
abbrev HN.val (h : HN) : Value := .agg #[.slice h.ka h.ks.length h.kc, .slice h.sa h.ss.length h.sc, .slice h.ca h.cs.length h.cc]
structure HNIn (h : HN) (w : World) (S : List Nat) : Prop where
  k : OldSl w S h.ka h.ks.length 1 (h.ks.map KN.cell)
  r : ∀ x ∈ h.ks, OldSl w S x.a x.ks.length 1 (x.ks.map natV)
  t : OldSl w S h.sa h.ss.length 1 (h.ss.map natV)
  c : OldSl w S h.ca h.cs.length 1 (h.cs.map natV)
theorem HNIn.at {h : HN} {w0 w : World} {S : List Nat} {l : List HL} (hh : HNIn h w0 S) (ho : Own w0 S w l) : HNIn h w [] := ⟨hh.k.at ho, fun x hx => (hh.r x hx).at ho, hh.t.at ho, hh.c.at ho⟩
theorem HN.hd_val (h : HN) : h.hd.val = h.val := by simp [HN.hd, Hd.val, HN.val]
theorem natI (l : List Nat) : (l.map fun n : Nat => (n : Int)).map intV = l.map natV := by simp
theorem HNIn.of {h : HN} {w : World} {S : List Nat} (hh : HdIn h.hd w S) : HNIn h w S := by
  obtain ⟨k, r, t, c⟩ := hh
  refine ⟨?_, fun x hx => ?_, ?_, ?_⟩
  · have e : (h.ks.map KN.kr).map KR.cell = h.ks.map KN.cell := by simp [KN.kr, KR.cell, KN.cell]
    simp only [HN.hd, List.length_map, e] at k
    exact k
  · have := r x.kr (by simp only [HN.hd]; exact List.mem_map_of_mem hx)
    simp only [KN.kr, List.length_map, natI] at this
    exact this
  · simp only [HN.hd, List.length_map, natI] at t; exact t
  · simp only [HN.hd, List.length_map, natI] at c; exact c
def cxN (s : Org) (h : HN) : Cx := ⟨s.ds, s.cs, h.ks.map KN.ks, h.cs⟩
/-- a hand that is good for a specification -/
structure HGood (s : Org) (h : HN) : Prop where
  spec : (checkP s).2 = 0
  cx : (cxN s h).Ok
  ssA : h.ss.Pairwise (· < ·)
  ssN : ∀ i ∈ h.ss, i < s.ss.length
  nr : s.rs.length ≤ 40
  ns : s.ss.length ≤ 80
  nc : s.cs.length ≤ 24
  hk : ∀ x ∈ h.ks, x.ks.length ≤ 128
  hc : ∀ x ∈ h.ks, x.ks.length ≤ x.c
theorem nat_list {l : List Int} (h : ∀ z ∈ l, 0 ≤ z) : l = (l.map Int.toNat).map (fun n : Nat => (n : Int)) := by
  rw [List.map_map]
  conv => lhs; rw [← List.map_id l]
  apply List.map_congr_left
  intro z hz
  have := h z hz
  simp only [id, Function.comp]
  omega
theorem rise_mem {l : List Int} {lo hi bad : Int} (hb : bad ≠ 0) (h : riseP l lo hi bad = 0) : (∀ z ∈ l, lo ≤ z ∧ z ≤ hi) ∧ l.Pairwise (· < ·) := by
  have h1 := riseP_ok hb h
  constructor
  · intro z hz
    obtain ⟨i, hi, rfl⟩ := getD_of_mem 0 hz
    have := h1 i hi
    unfold riseAt at this
    split at this
    · omega
    · omega
  · have key : ∀ i, i + 1 < l.length → l.getD i 0 < l.getD (i + 1) 0 := fun i hi => by
      have := h1 (i + 1) hi
      unfold riseAt at this
      rw [Nat.add_sub_cancel] at this
      split at this
      · omega
      · split at this
        · omega
        · omega
    rw [List.pairwise_iff_getElem]
    intro i j hi hj hij
    have step : ∀ d i, i + d + 1 < l.length → l.getD i 0 < l.getD (i + d + 1) 0 := fun d => by
      induction d with
      | zero => intro i hi; exact key i hi
      | succ d ih =>
        intro i hi
        have h2 := ih i (by omega)
        have h3 := key (i + d + 1) (by omega)
        rw [show i + (d + 1) + 1 = i + d + 1 + 1 by omega]
        omega
    have h2 := step (j - i - 1) i (by omega)
    rw [show i + (j - i - 1) + 1 = j by omega] at h2
    simpa [List.getD_eq_getElem?_getD, hi, hj] using h2
theorem toNat_asc {l : List Int} (h0 : ∀ z ∈ l, 0 ≤ z) (h : l.Pairwise (· < ·)) : (l.map Int.toNat).Pairwise (· < ·) := by
  rw [List.pairwise_map]
  refine (List.Pairwise.and_mem.1 h).imp fun {a b} hab => ?_
  have := h0 a hab.1
  have := h0 b hab.2.1
  have := hab.2.2
  omega
theorem asc_len {l : List Nat} {m : Nat} (h : l.Pairwise (· < ·)) (hm : ∀ x ∈ l, x < m) : l.length ≤ m :=
  nodup_le (h.imp fun h => Nat.ne_of_lt h) hm
/-- what the check of a specification says -/
theorem checkP_facts {s : Org} (h : (checkP s).2 = 0) : longB s = false ∧ (∀ i, i < s.ds.length → dvErr s.ds i = 0) ∧ (∀ i, i < s.rs.length → rkErr s.rs i = 0) ∧ (∀ i, i < s.ss.length → stO s i = none) ∧ (∀ i, i < s.cs.length → cpErr s.ds.length s.cs i = 0) := by
  have hno : ∀ {E : Nat → Int} {n k : Nat} {p : Nat} {e : Int}, firstO (fun i => errO (E i)) n 0 = some (k, p, e) → e ≠ 0 := fun he => by
    obtain ⟨_, _, h1, _⟩ := firstO_some he
    unfold errO at h1
    split at h1
    · cases h1
    · rename_i h2
      simp only [Option.some.injEq, Prod.mk.injEq] at h1
      rw [← h1.2]; exact h2
  have hyes : ∀ {E : Nat → Int} {n : Nat}, firstO (fun i => errO (E i)) n 0 = none → ∀ i, i < n → E i = 0 := fun he i hi => by
    have := firstO_none_iff he i (Nat.zero_le _) (by omega)
    unfold errO at this
    split at this
    · assumption
    · cases this
  unfold checkP at h
  cases hl : longB s with
  | true => rw [hl] at h; simp at h
  | false =>
    rw [hl] at h
    simp only [Bool.false_eq_true, if_false] at h
    cases h1 : firstO (fun i => errO (dvErr s.ds i)) s.ds.length 0 with
    | some x => obtain ⟨k, p, e⟩ := x; rw [h1] at h; exact absurd h (hno h1)
    | none =>
      rw [h1] at h
      simp only at h
      cases h2 : firstO (fun i => errO (rkErr s.rs i)) s.rs.length 0 with
      | some x => obtain ⟨k, p, e⟩ := x; rw [h2] at h; exact absurd h (hno h2)
      | none =>
        rw [h2] at h
        simp only at h
        cases h3 : firstO (stO s) s.ss.length 0 with
        | some x =>
          obtain ⟨k, p, e⟩ := x
          rw [h3] at h
          exfalso
          obtain ⟨_, _, h4, _⟩ := firstO_some h3
          simp only at h
          subst h
          unfold stO at h4
          split at h4
          · rename_i h5
            simp only [Option.some.injEq, Prod.mk.injEq] at h4
            exact h5 h4.2
          · split at h4
            · rename_i k2 e2 h5
              obtain ⟨_, _, h6, _⟩ := firstO_some h5
              simp only [Option.some.injEq, Prod.mk.injEq] at h4
              simp only at h6
              split at h6
              · cases h6
              · rename_i h7
                simp only [Option.some.injEq] at h6
                omega
            · cases h4
        | none =>
          rw [h3] at h
          simp only at h
          cases h4 : firstO (fun i => errO (cpErr s.ds.length s.cs i)) s.cs.length 0 with
          | some x => obtain ⟨k, p, e⟩ := x; rw [h4] at h; exact absurd h (hno h4)
          | none => exact ⟨rfl, hyes h1, hyes h2, fun i hi => firstO_none_iff h3 i (Nat.zero_le _) (by omega), hyes h4⟩
theorem cpErr_ok {nd : Nat} {l : List Cp} {i : Nat} (h : cpErr nd l i = 0) : (0 ≤ (l.getD i default).src ∧ (l.getD i default).src < nd) ∧ (0 ≤ (l.getD i default).dst ∧ (l.getD i default).dst < nd) ∧ (-12 ≤ (l.getD i default).shift ∧ (l.getD i default).shift ≤ 12) ∧ ((l.getD i default).thr = true → (l.getD i default).only = 0) ∧ (0 ≤ (l.getD i default).only ∧ (l.getD i default).only ≤ 2) := by
  unfold cpErr at h
  simp only at h
  split at h
  · omega
  · split at h
    · omega
    · split at h
      · omega
      · rename_i h3
        split at h
        · omega
        · rename_i h4
          unfold idxB at h3
          have h4 : cpArg (l.getD i default) = false := by simpa using h4
          unfold cpArg at h4
          simp only [Bool.or_eq_true, Bool.not_eq_true', Bool.and_eq_false_iff, decide_eq_false_iff_not, not_or, Decidable.not_not] at h3
          simp only [Bool.not_eq_false', Bool.and_eq_true, Bool.or_eq_true, decide_eq_true_eq, Bool.not_eq_true', Bool.and_eq_false_iff, decide_eq_false_iff_not, ne_eq, Decidable.not_not] at h4
          obtain ⟨⟨h5, h6⟩, h7⟩ := h4
          refine ⟨by omega, by omega, by omega, fun ht => ?_, h6⟩
          rcases h7 with h7 | h7
          · rw [ht] at h7; cases h7
          · omega
theorem good_of {s : Org} {h : Hd} (hle : HdLe h) (he : handErr s h = 0) : ∃ n : HN, h = n.hd ∧ HGood s n := by
  unfold handErr at he
  split at he
  · rename_i h1; exact absurd he h1
  · rename_i h1
    have h1' : (checkP s).2 = 0 := by omega
    split at he
    · omega
    · rename_i h2
      have h2' : h.ks.length = s.ds.length := by omega
      cases h3 : firstO (fun i => errO (keyErr s h i)) s.ds.length 0 with
      | some x =>
        obtain ⟨k, p, e⟩ := x
        rw [h3] at he
        simp only at he
        exfalso
        obtain ⟨_, _, h4, _⟩ := firstO_some h3
        unfold errO at h4
        split at h4
        · cases h4
        · rename_i h5
          simp only [Option.some.injEq, Prod.mk.injEq] at h4
          omega
      | none =>
        rw [h3] at he
        simp only at he
        split at he
        · rename_i h4; exact absurd he h4
        · rename_i h4
          have hS := rise_mem (by decide) (show riseP h.ss 0 ((s.ss.length : Int) - 1) 4 = 0 by omega)
          have hC := rise_mem (by decide) he
          obtain ⟨f1, f2, f3, f4, f5⟩ := checkP_facts h1'
          have hK : ∀ i, i < s.ds.length → (∀ z ∈ (h.ks.getD i default).ks, (s.ds.getD i default).lo ≤ z ∧ z ≤ (s.ds.getD i default).hi) ∧ (h.ks.getD i default).ks.Pairwise (· < ·) := fun i hi => by
            have := firstO_none_iff h3 i (Nat.zero_le _) (by omega)
            unfold errO at this
            split at this
            · rename_i h6; exact rise_mem (by decide) h6
            · cases this
          have hlo : ∀ i, i < s.ds.length → 0 ≤ (s.ds.getD i default).lo ∧ (s.ds.getD i default).lo ≤ (s.ds.getD i default).hi ∧ (s.ds.getD i default).hi ≤ 127 := fun i hi => by
            have := dvBad_no (dvErr_ok (f2 i hi)); omega
          have hk0 : ∀ x ∈ h.ks, ∀ z ∈ x.ks, 0 ≤ z ∧ z ≤ 127 := fun x hx z hz => by
            obtain ⟨i, hi, rfl⟩ := getD_of_mem default hx
            have := (hK i (by omega)).1 z hz
            have := hlo i (by omega)
            omega
          have hgd : ∀ d, ((h.ks.map fun r => (⟨r.a, r.c, r.ks.map Int.toNat⟩ : KN)).map KN.ks).getD d [] = (h.ks.getD d default).ks.map Int.toNat := fun d => by
            rw [List.map_map]
            rw [List.getD_eq_getElem?_getD, List.getD_eq_getElem?_getD, List.getElem?_map]
            cases h.ks[d]? <;> rfl
          have hl := f1
          unfold longB at hl
          simp only [Bool.or_eq_false_iff, decide_eq_false_iff_not] at hl
          have hdge : ∀ d, ¬ d < s.ds.length → (h.ks.getD d default).ks = [] := fun d hd => by
            rw [List.getD_eq_getElem?_getD, List.getElem?_eq_none (by omega)]; rfl
          refine ⟨⟨h.ka, h.kc, h.ks.map fun r => ⟨r.a, r.c, r.ks.map Int.toNat⟩, h.sa, h.sc, h.ss.map Int.toNat, h.ca, h.cc, h.cs.map Int.toNat⟩, ?_, ⟨h1', ?_, toNat_asc (fun z hz => (hS.1 z hz).1) hS.2, ?_, by omega, by omega, by omega, ?_, fun x hx => ?_⟩⟩
          · unfold HN.hd
            simp only
            rw [← nat_list (fun z hz => (hS.1 z hz).1), ← nat_list (fun z hz => (hC.1 z hz).1)]
            have : (h.ks.map fun r => (⟨r.a, r.c, r.ks.map Int.toNat⟩ : KN)).map KN.kr = h.ks := by
              rw [List.map_map]
              conv => rhs; rw [← List.map_id h.ks]
              apply List.map_congr_left
              intro x hx
              simp only [Function.comp, KN.kr, id]
              rw [← nat_list (fun z hz => (hk0 x hx z hz).1)]
            rw [this]
          · refine ⟨by simp only [cxN]; omega, by simp only [cxN, List.length_map]; omega, hlo, fun d k hk => ?_, fun d => ?_, toNat_asc (fun z hz => (hC.1 z hz).1) hC.2, fun i hi => ?_, fun i hi => (cpErr_ok (f5 i hi)).1, fun i hi => (cpErr_ok (f5 i hi)).2.1, fun i hi => (cpErr_ok (f5 i hi)).2.2.1, fun i ht => ?_⟩
            · simp only [Cx.kd, cxN, hgd] at hk
              obtain ⟨z, hz, rfl⟩ := List.mem_map.1 hk
              by_cases hd : d < s.ds.length
              · have h6 := (hK d hd).1 z hz
                have h7 := hlo d hd
                simp only [Cx.dv, cxN]
                omega
              · rw [hdge d hd] at hz; cases hz
            · simp only [Cx.kd, cxN, hgd]
              by_cases hd : d < s.ds.length
              · exact toNat_asc (fun z hz => by have := (hK d hd).1 z hz; have := hlo d hd; omega) (hK d hd).2
              · rw [hdge d hd]; exact List.Pairwise.nil
            · simp only [cxN] at hi ⊢
              obtain ⟨z, hz, rfl⟩ := List.mem_map.1 hi
              have := hC.1 z hz
              omega
            · by_cases hi : i < s.cs.length
              · exact (cpErr_ok (f5 i hi)).2.2.2.1 ht
              · simp only [Cx.cp, cxN] at ht
                rw [List.getD_eq_getElem?_getD, List.getElem?_eq_none (by omega)] at ht
                simp at ht
                cases ht
          · intro i hi
            obtain ⟨z, hz, rfl⟩ := List.mem_map.1 hi
            have := hS.1 z hz
            omega
          · intro x hx
            obtain ⟨r, hr, rfl⟩ := List.mem_map.1 hx
            obtain ⟨i, hi, hri⟩ := getD_of_mem default hr
            have h6 := hK i (by omega)
            rw [hri] at h6
            refine asc_len (toNat_asc (fun z hz => (hk0 r hr z hz).1) h6.2) (fun k hk => ?_)
            obtain ⟨z, hz, rfl⟩ := List.mem_map.1 hk
            have := hk0 r hr z hz
            omega
          · obtain ⟨r, hr, rfl⟩ := List.mem_map.1 hx
            have := hle.kc r hr
            simpa using this
end Go.Sn
namespace Go.Sn
/-! # Sets of notes as numbers -/
def loW (X : Nat) : Nat := X % 18446744073709551616
def hiW (X : Nat) : Nat := X / 18446744073709551616
def bits64 (W : Nat) : List Nat := (List.range 64).filter fun i => W.testBit i
def bitsOf (X : Nat) : List Nat := (List.range 128).filter fun i => X.testBit i
theorem loW_lt (X : Nat) : loW X < 18446744073709551616 := Nat.mod_lt _ (by decide)
theorem hiW_lt {X : Nat} (h : X < 2 ^ 128) : hiW X < 18446744073709551616 := by
  unfold hiW
  exact Nat.div_lt_of_lt_mul (by rw [show (18446744073709551616 : Nat) * 18446744073709551616 = 2 ^ 128 by decide]; exact h)
theorem p64 : (18446744073709551616 : Nat) = 2 ^ 64 := by decide
theorem loW_bit (X i : Nat) : (loW X).testBit i = (decide (i < 64) && X.testBit i) := by
  unfold loW; rw [p64, Nat.testBit_mod_two_pow]
theorem hiW_bit (X i : Nat) : (hiW X).testBit i = X.testBit (i + 64) := by
  unfold hiW
  rw [p64, Nat.testBit_div_two_pow]
def wordOf (X i : Nat) : Nat := if i = 0 then loW X else hiW X
theorem bitsOf_split (X : Nat) : bitsOf X = bits64 (loW X) ++ (bits64 (hiW X)).map (64 + ·) := by
  unfold bitsOf bits64
  rw [show List.range 128 = List.range 64 ++ (List.range 64).map (64 + ·) from (show List.range (64 + 64) = _ from List.range_add), List.filter_append, List.filter_map]
  congr 1
  · apply List.filter_congr
    intro i hi
    rw [loW_bit]
    have := List.mem_range.1 hi
    simp [this]
  · congr 1
    apply List.filter_congr
    intro i hi
    rw [hiW_bit, Function.comp, Nat.add_comm]
theorem lo_or {X n : Nat} (h : n < 64) : loW (X ||| 2 ^ n) = loW X ||| 2 ^ n := by
  apply Nat.eq_of_testBit_eq
  intro i
  rw [loW_bit, Nat.testBit_or, Nat.testBit_or, loW_bit, Nat.testBit_two_pow]
  by_cases h2 : n = i
  · subst h2; simp [h]
  · simp [h2]
theorem hi_or {X n : Nat} (h : n < 64) : hiW (X ||| 2 ^ n) = hiW X := by
  apply Nat.eq_of_testBit_eq
  intro i
  rw [hiW_bit, hiW_bit, Nat.testBit_or, Nat.testBit_two_pow]
  have : ¬ n = i + 64 := by omega
  simp [this]
theorem lo_or' {X n : Nat} (h : 64 ≤ n) : loW (X ||| 2 ^ n) = loW X := by
  apply Nat.eq_of_testBit_eq
  intro i
  rw [loW_bit, loW_bit, Nat.testBit_or, Nat.testBit_two_pow]
  by_cases h2 : i < 64
  · have : ¬ n = i := by omega
    simp [this]
  · simp [h2]
theorem hi_or' {X n : Nat} (h : 64 ≤ n) : hiW (X ||| 2 ^ n) = hiW X ||| 2 ^ (n - 64) := by
  apply Nat.eq_of_testBit_eq
  intro i
  rw [hiW_bit, Nat.testBit_or, Nat.testBit_or, hiW_bit, Nat.testBit_two_pow, Nat.testBit_two_pow]
  congr 1
  rw [Bool.eq_iff_iff]
  simp only [decide_eq_true_eq]
  omega
theorem has_bit {X n : Nat} (h : n < 128) : (wordOf X (n / 64) >>> (n % 64) &&& 1 = 1) ↔ X.testBit n = true := by
  have e : ∀ W k : Nat, (W >>> k &&& 1 = 1) ↔ W.testBit k = true := fun W k => by
    rw [Nat.testBit, Nat.and_comm]
    have h2 : 1 &&& W >>> k = 0 ∨ 1 &&& W >>> k = 1 := by
      rw [Nat.one_and_eq_mod_two]; omega
    rcases h2 with h2 | h2 <;> simp [h2]
  rw [e]
  unfold wordOf
  by_cases h2 : n < 64
  · rw [Nat.div_eq_of_lt h2, if_pos rfl, Nat.mod_eq_of_lt h2, loW_bit]; simp [h2]
  · rw [if_neg (by omega), hiW_bit, show n % 64 + 64 = n by omega]
/-! ## the lowest bit -/
def tz : Nat → Nat → Nat
  | 0, _ => 0
  | f + 1, W => if W % 2 = 1 then 0 else tz f (W / 2) + 1
theorem tz_bit : ∀ (f W : Nat), 0 < W → W < 2 ^ f → W.testBit (tz f W) = true ∧ (∀ j, j < tz f W → W.testBit j = false) ∧ tz f W < f
  | 0, W, h0, h1 => by simp at h1; omega
  | f + 1, W, h0, h1 => by
    unfold tz
    by_cases h : W % 2 = 1
    · rw [if_pos h]
      exact ⟨by rw [Nat.testBit_zero]; simp [h], fun j hj => by omega, by omega⟩
    · rw [if_neg h]
      obtain ⟨a, b, c⟩ := tz_bit f (W / 2) (by omega) (by rw [Nat.pow_succ] at h1; omega)
      refine ⟨by rw [Nat.testBit_succ]; exact a, fun j hj => ?_, by omega⟩
      cases j with
      | zero => rw [Nat.testBit_zero]; simp; omega
      | succ j => rw [Nat.testBit_succ]; exact b j (by omega)
/-- a number is its lowest bit and what is above -/
theorem low_form {W k : Nat} (hk : W.testBit k = true) (hl : ∀ j, j < k → W.testBit j = false) : W = 2 ^ k * (2 * (W / 2 ^ (k + 1)) + 1) := by
  have h1 : W % 2 ^ k = 0 := by
    apply Nat.eq_of_testBit_eq
    intro i
    rw [Nat.testBit_mod_two_pow, Nat.zero_testBit]
    by_cases h : i < k
    · rw [hl i h]; simp
    · simp [h]
  have h2 : W / 2 ^ k % 2 = 1 := by
    have := hk
    rw [← Nat.zero_add k, ← Nat.testBit_div_two_pow, Nat.testBit_zero] at this
    simpa using this
  have h3 : W = 2 ^ k * (W / 2 ^ k) := by
    have := Nat.div_add_mod W (2 ^ k)
    omega
  have h4 : W / 2 ^ (k + 1) = W / 2 ^ k / 2 := by rw [Nat.pow_succ, Nat.div_div_eq_div_mul]
  rw [h4]
  have h5 : 2 * (W / 2 ^ k / 2) + 1 = W / 2 ^ k := by omega
  rw [h5]; exact h3
theorem pred_bit {W k : Nat} (hk : W.testBit k = true) (hl : ∀ j, j < k → W.testBit j = false) (i : Nat) : (W - 1).testBit i = if i < k then true else if i = k then false else W.testBit i := by
  have e := low_form hk hl
  obtain ⟨q, hq⟩ : ∃ q, W / 2 ^ (k + 1) = q := ⟨_, rfl⟩
  rw [hq] at e
  have hp := Nat.two_pow_pos k
  have e1 : W - 1 = 2 ^ k * (2 * q) + (2 ^ k - 1) := by
    rw [e, Nat.mul_add, Nat.mul_one]; omega
  have e2 : W = 2 ^ k * (2 * q + 1) + 0 := by rw [Nat.add_zero]; exact e
  rw [e1, Nat.testBit_two_pow_mul_add _ (by omega)]
  by_cases h : i < k
  · rw [if_pos h, if_pos h, Nat.testBit_two_pow_sub_one]; simp [h]
  · rw [if_neg h, if_neg h]
    by_cases h2 : i = k
    · subst h2; rw [if_pos rfl, Nat.sub_self, Nat.testBit_zero]; simp
    · rw [if_neg h2]
      conv => rhs; rw [e2]
      rw [Nat.testBit_two_pow_mul_add _ (by omega), if_neg h]
      obtain ⟨j, hj⟩ : ∃ j, i - k = j + 1 := ⟨i - k - 1, by omega⟩
      rw [hj, Nat.testBit_succ, Nat.testBit_succ]
      congr 1; omega
theorem and_pred {W k : Nat} (hk : W.testBit k = true) (hl : ∀ j, j < k → W.testBit j = false) (i : Nat) : (W &&& (W - 1)).testBit i = (W.testBit i && decide (i ≠ k)) := by
  rw [Nat.testBit_and, pred_bit hk hl]
  by_cases h : i < k
  · rw [if_pos h, hl i h]; rfl
  · rw [if_neg h]
    by_cases h2 : i = k
    · subst h2; simp
    · simp [h2]
theorem and_neg {W k : Nat} (h0 : 0 < W) (hW : W < 18446744073709551616) (hk : W.testBit k = true) (hl : ∀ j, j < k → W.testBit j = false) : W &&& (18446744073709551616 - W) = 2 ^ k := by
  apply Nat.eq_of_testBit_eq
  intro i
  have e : (18446744073709551616 - W) = 2 ^ 64 - ((W - 1) + 1) := by rw [p64]; omega
  rw [Nat.testBit_and, e, Nat.testBit_two_pow_sub_succ (by rw [← p64]; omega), pred_bit hk hl, Nat.testBit_two_pow]
  have hk64 : k < 64 := by
    rcases Nat.lt_or_ge k 64 with h | h
    · exact h
    · have := Nat.testBit_lt_two_pow (x := W) (i := k) (Nat.lt_of_lt_of_le hW (by rw [p64]; exact Nat.pow_le_pow_right (by decide) h))
      rw [this] at hk; cases hk
  by_cases h : i < k
  · rw [if_pos h, hl i h]
    have : ¬ k = i := by omega
    simp [this]
  · rw [if_neg h]
    by_cases h2 : i = k
    · subst h2; simp [hk, hk64]
    · have : ¬ k = i := fun e => h2 e.symm
      rw [if_neg h2]
      cases W.testBit i <;> simp [this]
/-- the bits in order -/
theorem filter_first {p : Nat → Bool} {k : Nat} (hk : p k = true) (hl : ∀ j, j < k → p j = false) : ∀ (N : Nat), k < N → (List.range N).filter p = k :: (List.range N).filter (fun i => p i && decide (i ≠ k)) := fun N hN => by
  obtain ⟨m, rfl⟩ : ∃ m, N = k + (1 + m) := ⟨N - k - 1, by omega⟩
  rw [List.range_add, List.filter_append, List.filter_append]
  have h1 : (List.range k).filter p = [] := by
    rw [List.filter_eq_nil_iff]
    intro j hj
    rw [hl j (List.mem_range.1 hj)]; decide
  have h2 : (List.range k).filter (fun i => p i && decide (i ≠ k)) = [] := by
    rw [List.filter_eq_nil_iff]
    intro j hj
    rw [hl j (List.mem_range.1 hj)]; simp
  rw [h1, h2, List.nil_append, List.nil_append, List.range_add, List.map_append, List.filter_append, List.filter_append]
  have h3 : (List.map (fun x => k + x) (List.range 1)).filter p = [k] := by simp [hk]
  have h4 : (List.map (fun x => k + x) (List.range 1)).filter (fun i => p i && decide (i ≠ k)) = [] := by simp
  rw [h3, h4, List.nil_append, List.singleton_append]
  congr 1
  apply List.filter_congr
  intro i hi
  simp only [List.mem_map, List.mem_range] at hi
  obtain ⟨a, ⟨b, _, rfl⟩, rfl⟩ := hi
  have : k + (1 + b) ≠ k := by omega
  simp
theorem bits64_cons {W : Nat} (h0 : 0 < W) (hW : W < 18446744073709551616) : bits64 W = tz 64 W :: bits64 (W &&& (W - 1)) := by
  obtain ⟨a, b, c⟩ := tz_bit 64 W h0 (by rw [← p64]; exact hW)
  unfold bits64
  rw [filter_first a b 64 c]
  congr 1
  apply List.filter_congr
  intro i _
  rw [and_pred a b]
theorem bits64_zero : bits64 0 = [] := by
  unfold bits64
  rw [List.filter_eq_nil_iff]
  intro i _
  rw [Nat.zero_testBit]; decide
theorem bits64_len (W : Nat) : (bits64 W).length ≤ 64 := by
  have := List.length_filter_le (fun i => W.testBit i) (List.range 64)
  simpa [bits64] using this
theorem bitsOf_mem {X n : Nat} : n ∈ bitsOf X ↔ n < 128 ∧ X.testBit n = true := by
  unfold bitsOf; simp [List.mem_filter]
theorem bitsOf_len (X : Nat) : (bitsOf X).length ≤ 128 := by
  have := List.length_filter_le (fun i => X.testBit i) (List.range 128)
  simpa [bitsOf] using this
/-! ## Go's table -/
def tab64 : List Nat := [0, 1, 56, 2, 57, 49, 28, 3, 61, 58, 42, 50, 38, 29, 17, 4, 62, 47, 59, 36, 45, 43, 51, 22, 53, 39, 33, 30, 24, 18, 12, 5, 63, 55, 48, 27, 60, 41, 37, 16, 46, 35, 44, 21, 52, 32, 23, 11, 54, 26, 40, 15, 34, 20, 31, 10, 25, 14, 19, 9, 13, 8, 7, 6]
def dbIx (k : Nat) : Nat := (2 ^ k * 285870213051353865 % 18446744073709551616) >>> 58
set_option maxRecDepth 100000 in
theorem tab64_at : ∀ k : Fin 64, dbIx k.val < 64 ∧ tab64.getD (dbIx k.val) 0 = k.val := by decide
end Go.Sn
namespace Go.Sn
open Go.Gv
/-! # What acts, in memory -/
def plC (p : Pl) : List Value := [natV p.1, natV p.2]
def stpV (x : Int × Pl) : Value := .agg #[.int .i64 x.1, natV x.2.1, natV x.2.2]
def mpOf : List En → Nat → List (MP (Int × Pl))
  | [], _ => []
  | e :: l, k => ⟨(e.q.1 : Int), (e.q.2 : Int), (e.i, e.p), k⟩ :: mpOf l (k + 1)
def actO (tb : List En) : Obj := mapP stpV (mpOf tb 0) tb.length
theorem mpOf_snoc (e : En) : ∀ (l : List En) (k : Nat), mpOf (l ++ [e]) k = mpOf l k ++ [⟨(e.q.1 : Int), (e.q.2 : Int), (e.i, e.p), k + l.length⟩]
  | [], k => by simp [mpOf]
  | a :: l, k => by simp only [List.cons_append, mpOf, mpOf_snoc e l (k + 1), List.length_cons]; rw [show k + 1 + l.length = k + (l.length + 1) by omega]
theorem actO_snoc (tb : List En) (e : En) : mapP stpV (mpOf tb 0 ++ [⟨(e.q.1 : Int), (e.q.2 : Int), (e.i, e.p), tb.length⟩]) (tb.length + 1) = actO (tb ++ [e]) := by
  unfold actO
  rw [mpOf_snoc, Nat.zero_add, List.length_append]; rfl
theorem actO_nil : mapP stpV [] 0 = actO [] := rfl
def findEn (l : List En) (q : Pl) : Option En := l.find? fun e => decide (e.q = q)
theorem mpOf_get (q : Pl) : ∀ (l : List En) (k : Nat), pgetM (q.1 : Int) (q.2 : Int) (mpOf l k) = (findEn l q).map fun e => (e.i, e.p)
  | [], k => rfl
  | e :: l, k => by
    have ih := mpOf_get q l (k + 1)
    simp only [mpOf, pgetM]
    unfold findEn at ih ⊢
    rw [List.find?_cons]
    by_cases h : e.q = q
    · subst h; simp
    · have h2 : ¬ ((q.1 : Int) = e.q.1 ∧ (q.2 : Int) = e.q.2) := fun ⟨a, b⟩ => h (Prod.ext (by omega) (by omega))
      rw [if_neg h2, decide_eq_false h]
      exact ih
theorem tabOf_find (l : List En) (q : Pl) : tabOf l q = (findEn l q).map fun e => (e.org, e.ch) := rfl
theorem mpOf_none {l : List En} {q : Pl} (h : tabOf l q = none) : pgetM (q.1 : Int) (q.2 : Int) (mpOf l 0) = none := by
  rw [mpOf_get]
  rw [tabOf_find] at h
  cases hf : findEn l q with
  | none => rfl
  | some e => rw [hf] at h; cases h
theorem enOf_q (l : List En) (q : Pl) (i : Nat) (p : Pl) : (enOf l q i p).q = q ∧ (enOf l q i p).i = (i : Int) ∧ (enOf l q i p).p = p := by
  unfold enOf
  cases tabOf l p <;> exact ⟨rfl, rfl, rfl⟩
/-- a group in memory -/
structure GR where
  r : Option Nat
  c : Nat
  ps : List Pl
  deriving Inhabited
def GR.cell (g : GR) : Value := .slice (rowA g.r) g.ps.length g.c
/-- one coupler's step, in pieces -/
theorem stepR_no {A : Cx} {i : Nat} {x : AS × List Pl} {p : Pl} (h : ¬ ((A.dv (A.cp i).dst.toNat).lo ≤ (p.2 : Int) + (A.cp i).shift ∧ (p.2 : Int) + (A.cp i).shift ≤ (A.dv (A.cp i).dst.toNat).hi)) : stepR A i x p = x := by
  unfold stepR Cx.tgt; rw [if_neg h]
theorem stepR_tgt {A : Cx} {i : Nat} {p : Pl} {kn : Nat} (hk : (p.2 : Int) + (A.cp i).shift = kn) (h : (A.dv (A.cp i).dst.toNat).lo ≤ (kn : Int) ∧ (kn : Int) ≤ (A.dv (A.cp i).dst.toNat).hi) : A.tgt i p = some ((A.cp i).dst.toNat, kn) := by
  unfold Cx.tgt; rw [hk, if_pos h, Int.toNat_natCast]
theorem stepR_has {A : Cx} {i : Nat} {x : AS × List Pl} {p q : Pl} (ht : A.tgt i p = some q) (h : hasS x.1.sets q = true) : stepR A i x p = x := by
  unfold stepR; rw [ht]; simp only; rw [if_pos h]
theorem stepR_new {A : Cx} {i : Nat} {x : AS × List Pl} {p q : Pl} (ht : A.tgt i p = some q) (h : hasS x.1.sets q = false) : stepR A i x p = (⟨addSet x.1.sets q, x.1.tb ++ [enOf x.1.tb q i p]⟩, x.2 ++ [q]) := by
  unfold stepR; rw [ht]; simp only; rw [if_neg (by rw [h]; decide)]
theorem stepR_set {A : Cx} (hA : A.Ok) {i : Nat} (hi : i ∈ A.dr) {x : AS × List Pl} {p : Pl} (h : SetOk A x.1) : SetOk A (stepR A i x p).1 := by
  unfold stepR
  cases ht : A.tgt i p with
  | none => exact h
  | some q =>
    simp only
    split
    · exact h
    · have hk := Cx.tgt_key hA hi ht
      have := hA.rng _ hk.2.2.1
      exact h.put hk.2.2.1 (by omega) (enOf_q _ _ _ _).1
theorem fold_take {α β : Type} (f : β → α → β) (b : β) {l : List α} {k : Nat} {x : α} (hx : l[k]? = some x) : (l.take (k + 1)).foldl f b = f ((l.take k).foldl f b) x := by
  rw [take_at hx, List.foldl_append]; rfl
theorem stepR_len {A : Cx} {i : Nat} {x : AS × List Pl} {p : Pl} : (stepR A i x p).2.length ≤ x.2.length + 1 := by
  unfold stepR
  cases A.tgt i p with
  | none => simp
  | some q => simp only; split <;> simp
/-- the first empty group -/
def idxE : List GR → Nat → Int
  | [], _ => -1
  | g :: l, k => if g.ps.length = 0 then (k : Int) else idxE l (k + 1)
theorem idxE_at {l : List GR} {k : Nat} {g : GR} (hg : l[k]? = some g) : idxE (l.drop k) k = if g.ps.length = 0 then (k : Int) else idxE (l.drop (k + 1)) (k + 1) := by
  rw [drop_at hg]; rfl
def neB (g : GR) : Bool := decide (g.ps ≠ [])
theorem idxE_none : ∀ {l : List GR} {k : Nat}, idxE l k = -1 → l.filter neB = l
  | [], _, _ => rfl
  | g :: l, k, h => by
    simp only [idxE] at h
    split at h
    · omega
    · rename_i h2
      have : neB g = true := by unfold neB; simp; intro e; rw [e] at h2; exact h2 rfl
      rw [List.filter_cons, if_pos this, idxE_none h]
theorem idxE_some : ∀ {l : List GR} {k j : Nat}, idxE l k = ((k + j : Nat) : Int) → j < l.length ∧ (l.take (j + 1)).filter neB = l.take j
  | [], k, j, h => by simp [idxE] at h; omega
  | g :: l, k, j, h => by
    simp only [idxE] at h
    split at h
    · rename_i h2
      obtain rfl : j = 0 := by omega
      have : neB g = false := by unfold neB; simp; exact List.length_eq_zero_iff.1 h2
      refine ⟨by simp, ?_⟩
      simp [List.filter_cons, this]
    · rename_i h2
      have : neB g = true := by unfold neB; simp; intro e; rw [e] at h2; exact h2 rfl
      have hle : ∀ (l : List GR) (k : Nat), idxE l k = -1 ∨ (k : Int) ≤ idxE l k := by
        intro l
        induction l with
        | nil => intro k; exact .inl rfl
        | cons g l ih =>
          intro k
          simp only [idxE]
          split
          · exact .inr (Int.le_refl _)
          · rcases ih (k + 1) with h5 | h5
            · exact .inl h5
            · exact .inr (by omega)
      have h6 := hle l (k + 1)
      obtain ⟨j', rfl⟩ : ∃ j', j = j' + 1 := ⟨j - 1, by omega⟩
      obtain ⟨a, b⟩ := idxE_some (l := l) (k := k + 1) (j := j') (by rw [h]; omega)
      refine ⟨by simp; omega, ?_⟩
      rw [List.take_succ_cons, List.filter_cons, if_pos this, b, List.take_succ_cons]
theorem idxE_le : ∀ (l : List GR) (k : Nat), idxE l k = -1 ∨ ((k : Int) ≤ idxE l k ∧ idxE l k < k + l.length)
  | [], k => .inl rfl
  | g :: l, k => by
    simp only [idxE]
    split
    · exact .inr ⟨Int.le_refl _, by simp; omega⟩
    · rcases idxE_le l (k + 1) with h | h
      · exact .inl h
      · exact .inr ⟨by omega, by simp; omega⟩
theorem row_cap {w : World} {E : TypeId} {sz : Nat} {r : Option Nat} {m cap : Nat} {xs : List Value} (h : HL.holds w (.row E sz r m cap xs)) : m ≤ cap := by
  obtain ⟨_, h2⟩ := h
  cases r with
  | none => omega
  | some g => obtain ⟨_, _, h3, _⟩ := h2; exact h3
end Go.Sn
namespace Go.Sn
open Go.Gv
/-! # Bounds of the groups; the played keys one after the other -/
section
variable {A : Cx}
structure GOk (l : List Pl) : Prop where
  len : l.length ≤ 128
  key : ∀ p ∈ l, p.2 < 128
theorem reach_ok (hA : A.Ok) {i : Nat} (hi : i ∈ A.dr) : ∀ (l : List Pl) (x : AS × List Pl), SetOk A x.1 → (∀ p ∈ x.2, p.2 < 128) → SetOk A (l.foldl (stepR A i) x).1 ∧ (l.foldl (stepR A i) x).2.length ≤ x.2.length + l.length ∧ ∀ p ∈ (l.foldl (stepR A i) x).2, p.2 < 128
  | [], x, h, h2 => ⟨h, by simp, h2⟩
  | p :: l, x, h, h2 => by
    have h3 := stepR_set hA hi (p := p) h
    have h4 := stepR_len (A := A) (i := i) (x := x) (p := p)
    obtain ⟨a, b, c⟩ := reach_ok hA hi l (stepR A i x p) h3 (fun q hq => by
      unfold stepR at hq
      cases ht : A.tgt i p with
      | none => rw [ht] at hq; exact h2 q hq
      | some q' =>
        rw [ht] at hq
        simp only at hq
        split at hq
        · exact h2 q hq
        · rcases List.mem_append.1 hq with hq | hq
          · exact h2 q hq
          · rw [List.mem_singleton.1 hq]
            have hk := Cx.tgt_key hA hi ht
            have := hA.rng _ hk.2.2.1
            omega)
    refine ⟨a, ?_, c⟩
    simp only [List.foldl_cons, List.length_cons]
    omega
theorem reachP_set (hA : A.Ok) {i : Nat} (hi : i ∈ A.dr) {l : List Pl} {st : AS} (h : SetOk A st) : SetOk A (reachP A i l st).1 := (reach_ok hA hi l (st, []) h (by simp)).1
theorem reachP_gok (hA : A.Ok) {i : Nat} (hi : i ∈ A.dr) {l : List Pl} {st : AS} (h : SetOk A st) (hl : GOk l) : GOk (reachP A i l st).2 := by
  obtain ⟨_, b, c⟩ := reach_ok hA hi l (st, []) h (by simp)
  refine ⟨?_, c⟩
  have := hl.len
  unfold reachP
  simp at b
  omega
theorem start_gok (hA : A.Ok) (i : Nat) : GOk (A.start i) := by
  have hsub : ∀ p ∈ A.start i, p.2 < 128 := fun p hp => by
    have h := (Cx.start_mem hp).2
    have h2 := hA.key _ _ h
    have h3 := hA.rng _ (kd_lt hA h)
    omega
  refine ⟨?_, hsub⟩
  unfold Cx.start
  rw [List.length_map]
  have h1 : (takenL (A.cp i) (A.kd (A.cp i).src.toNat)).length ≤ (A.kd (A.cp i).src.toNat).length := by
    unfold takenL
    split
    · exact Nat.le_refl _
    · split
      · rw [List.length_take]; omega
      · rw [List.length_drop]; omega
  have h2 := asc_len (m := 128) (hA.asc (A.cp i).src.toNat) (fun k hk => by
    have h2 := hA.key _ _ hk
    have h3 := hA.rng _ (kd_lt hA hk)
    omega)
  omega
theorem lev_len (hA : A.Ok) (hdr : A.dr.length ≤ 768) (n : Nat) : (lev A n).2.length ≤ 768 := by
  cases n with
  | zero =>
    have : ∀ (dr : List Nat) (x : GS), (dr.foldl (firstStep A) x).2.length = x.2.length + dr.length := by
      intro dr
      induction dr with
      | nil => intro x; rfl
      | cons i dr ih => intro x; rw [List.foldl_cons, ih]; simp [firstStep]; omega
    have := this A.dr (st0 A, [])
    show (firstG A (st0 A)).2.length ≤ 768
    unfold firstG
    rw [this]; simp; exact hdr
  | succ n =>
    obtain ⟨L, g1, g2, g3, g4, g5, g6⟩ := (lev_ok hA (n + 1)).grp
    have hne := lev_filtered (A := A) n
    have hok := (lev_ok hA (n + 1)).ok
    rw [g1] at hne ⊢
    rw [List.length_map]
    have hhd : ∀ g ∈ L, g.2 ≠ [] := fun g hg => hne g.2 (List.mem_map_of_mem hg)
    obtain ⟨hd, hhd2⟩ : ∃ hd : List Nat × List Pl → Pl, ∀ g ∈ L, hd g ∈ g.2 := ⟨fun g => g.2.headD (0, 0), fun g hg => by
      have := hhd g hg
      cases h : g.2 with
      | nil => exact absurd h this
      | cons p l => show g.2.headD (0, 0) ∈ p :: l; rw [h]; exact List.mem_cons_self⟩
    have h4 : (L.map fun g => (hd g).1 * 128 + (hd g).2).Nodup := by
      rw [List.nodup_iff_pairwise_ne, List.pairwise_map]
      refine (List.Pairwise.and_mem.1 g3).imp fun {a b} hab e => ?_
      obtain ⟨va, ha, hae⟩ := g4 a hab.1 _ (hhd2 a hab.1)
      obtain ⟨vb, hb, hbe⟩ := g4 b hab.2.1 _ (hhd2 b hab.2.1)
      have ka := (hok.best _ _ ha).1.1.key hA
      have kb := (hok.best _ _ hb).1.1.key hA
      have : hd a = hd b := Prod.ext (by omega) (by omega)
      rw [this] at ha
      rw [ha] at hb; cases hb
      have h5 := hab.2.2
      rw [← hae, ← hbe, lessB_irrefl] at h5; cases h5
    have h5 := nodup_le (m := 768) h4 (fun x hx => by
      obtain ⟨g, hg, rfl⟩ := List.mem_map.1 hx
      obtain ⟨va, ha, _⟩ := g4 g hg _ (hhd2 g hg)
      have ka := (hok.best _ _ ha).1.1.key hA
      have kl := (hok.best _ _ ha).1.1.lt hA
      have := hA.nd
      omega)
    rwa [List.length_map] at h5
/-- the played keys so far -/
def preL (A : Cx) (k j : Nat) : List Pl := ((List.range k).flatMap fun d => (A.kd d).map fun n => (d, n)) ++ ((A.kd k).take j).map fun n => (k, n)
def stPre (A : Cx) (k j : Nat) : AS := (preL A k j).foldl putPlayed ⟨List.replicate A.ds.length 0, []⟩
theorem preL_row (k : Nat) : preL A k (A.kd k).length = preL A (k + 1) 0 := by
  unfold preL
  rw [List.take_length, List.range_succ, List.flatMap_append]
  simp
theorem preL_end (hA : A.Ok) : preL A A.ks.length 0 = playedL A := by unfold preL playedL; simp
theorem preL_snoc {k j n : Nat} (h : (A.kd k)[j]? = some n) : preL A k (j + 1) = preL A k j ++ [(k, n)] := by
  unfold preL
  rw [take_at h, List.map_append, List.append_assoc]; rfl
theorem played_mem : ∀ (l : List Pl) (st : AS) (q : Pl) (v : Pl × List Nat), tabOf (l.foldl putPlayed st).tb q = some v → q ∈ l ∨ ∃ u, tabOf st.tb q = some u
  | [], st, q, v, h => .inr ⟨v, h⟩
  | p :: l, st, q, v, h => by
    rcases played_mem l (putPlayed st p) q v h with h1 | ⟨u, h1⟩
    · exact .inl (List.mem_cons_of_mem _ h1)
    · simp only [putPlayed] at h1
      rw [tabOf_snoc] at h1
      cases h2 : tabOf st.tb q with
      | some z => exact .inr ⟨z, rfl⟩
      | none =>
        rw [h2] at h1
        simp only at h1
        split at h1
        · rename_i e; exact .inl (by rw [← e]; simp)
        · cases h1
theorem preL_new (hA : A.Ok) {k j n : Nat} (h : (A.kd k)[j]? = some n) : (k, n) ∉ preL A k j := fun hm => by
  unfold preL at hm
  rcases List.mem_append.1 hm with hm | hm
  · obtain ⟨d, hd, hm⟩ := List.mem_flatMap.1 hm
    obtain ⟨m, _, e⟩ := List.mem_map.1 hm
    have := List.mem_range.1 hd
    cases e; omega
  · obtain ⟨m, hm2, e⟩ := List.mem_map.1 hm
    simp only [Prod.mk.injEq, true_and] at e
    rw [e] at hm2
    obtain ⟨q, hq, e2⟩ := List.getElem_of_mem hm2
    have hq2 : q < j ∧ q < (A.kd k).length := by rw [List.length_take] at hq; omega
    have hj := (List.getElem?_eq_some_iff.1 h)
    have := List.pairwise_iff_getElem.1 (hA.asc k) q j hq2.2 hj.1 hq2.1
    rw [hj.2] at this
    simp at e2
    omega
theorem stPre_set (hA : A.Ok) (k : Nat) : ∀ j, SetOk A (stPre A k j) := by
  have key : ∀ (l : List Pl) (st : AS), (∀ q ∈ l, q.2 ∈ A.kd q.1) → SetOk A st → SetOk A (l.foldl putPlayed st) := by
    intro l
    induction l with
    | nil => intro st _ h; exact h
    | cons q l ih =>
      intro st hl h
      have hq := hl q List.mem_cons_self
      have hlt := kd_lt hA hq
      have h2 := hA.key _ _ hq
      have h3 := hA.rng _ hlt
      exact ih _ (fun p hp => hl p (List.mem_cons_of_mem _ hp)) (h.put hlt (by omega) rfl)
  intro j
  refine key _ _ (fun q hq => ?_) ⟨by simp, fun q hq => ?_, fun x hx => ?_, fun q v hv => by simp [tabOf] at hv⟩
  · unfold preL at hq
    rcases List.mem_append.1 hq with hq | hq
    · obtain ⟨d, _, hq⟩ := List.mem_flatMap.1 hq
      obtain ⟨m, hm, rfl⟩ := List.mem_map.1 hq
      exact hm
    · obtain ⟨m, hm, rfl⟩ := List.mem_map.1 hq
      exact List.mem_of_mem_take hm
  · have : (List.replicate A.ds.length 0).getD q.1 0 = 0 := by rw [List.getD_eq_getElem?_getD, List.getElem?_replicate]; split <;> rfl
    simp only [hasS, this, Nat.zero_testBit]
    simp [tabOf]
  · rw [(List.mem_replicate.1 hx).2]; exact Nat.two_pow_pos 128
theorem stPre_none (hA : A.Ok) {k j n : Nat} (h : (A.kd k)[j]? = some n) : tabOf (stPre A k j).tb (k, n) = none := by
  cases h2 : tabOf (stPre A k j).tb (k, n) with
  | none => rfl
  | some v =>
    rcases played_mem _ _ _ _ h2 with h3 | ⟨u, h3⟩
    · exact absurd h3 (preL_new hA h)
    · simp [tabOf] at h3
theorem stPre_snoc {k j n : Nat} (h : (A.kd k)[j]? = some n) : stPre A k (j + 1) = putPlayed (stPre A k j) (k, n) := by
  unfold stPre
  rw [preL_snoc h, List.foldl_append]; rfl
theorem stPre_row (k : Nat) : stPre A k (A.kd k).length = stPre A (k + 1) 0 := by unfold stPre; rw [preL_row]
theorem stPre_end (hA : A.Ok) : stPre A A.ks.length 0 = st0 A := by unfold stPre st0; rw [preL_end hA]
theorem goesL_eq {i : Nat} {l : List Pl} {c : Cp} (hc : A.cp i = c) {q : Pl} {l' : List Pl} (hl : l = q :: l') : goesL A i l = (c.thr && decide (c.src.toNat = q.1)) := by
  subst hl; subst hc; rfl
end
end Go.Sn
namespace Go.Sn
open Go.Gv
/-! # The reference's table of chains -/
structure CE where
  there : Bool
  pl : Nat
  src : Nat
  r : Option Nat
  c : Nat
  ch : List Nat
  deriving Inhabited
def ceC (e : CE) : List Value := [.bool e.there, natV e.pl, natV e.src, .slice (rowA e.r) e.ch.length e.c]
abbrev CE.val (e : CE) : Value := .agg #[.bool e.there, natV e.pl, natV e.src, .slice (rowA e.r) e.ch.length e.c]
def ce0 : CE := ⟨false, 0, 0, none, 0, []⟩
def entR (tb : List (List CE)) (q : Pl) : CE := (tb.getD q.1 []).getD q.2 ce0
def tabR (tb : List (List CE)) : Tab := fun q => if (entR tb q).there then some (((entR tb q).src, (entR tb q).pl), (entR tb q).ch) else none
def setR (tb : List (List CE)) (q : Pl) (x : CE) : List (List CE) := tb.set q.1 ((tb.getD q.1 []).set q.2 x)
structure TbLen (nd : Nat) (tb : List (List CE)) : Prop where
  len : tb.length = nd
  row : ∀ r ∈ tb, r.length = 128
theorem TbLen.getD {nd : Nat} {tb : List (List CE)} (h : TbLen nd tb) {d : Nat} (hd : d < nd) : (tb.getD d []).length = 128 := by
  obtain ⟨r, hr⟩ := get_some (show d < tb.length by rw [h.len]; exact hd)
  rw [getD_some hr]; exact h.row r (List.mem_of_getElem? hr)
theorem entR_set {nd : Nat} {tb : List (List CE)} (h : TbLen nd tb) {q q' : Pl} (h1 : q.1 < nd) (h2 : q.2 < 128) (x : CE) : entR (setR tb q x) q' = if q' = q then x else entR tb q' := by
  unfold entR setR
  have hl := h.getD h1
  rw [Gv.getD_set _ _ _ _ (by rw [h.len]; exact h1)]
  by_cases e1 : q.1 = q'.1
  · rw [if_pos e1, Gv.getD_set _ _ _ _ (by rw [hl]; exact h2)]
    by_cases e2 : q.2 = q'.2
    · rw [if_pos e2, if_pos (Prod.ext e1.symm e2.symm)]
    · rw [if_neg e2, if_neg (fun h => e2 (by rw [h])), e1]
  · rw [if_neg e1, if_neg (fun h => e1 (by rw [h]))]
theorem TbLen.set {nd : Nat} {tb : List (List CE)} (h : TbLen nd tb) {q : Pl} (h1 : q.1 < nd) (x : CE) : TbLen nd (setR tb q x) := by
  refine ⟨by unfold setR; simp [h.len], fun r hr => ?_⟩
  unfold setR at hr
  rcases List.mem_or_eq_of_mem_set hr with hr | hr
  · exact h.row r hr
  · rw [hr, List.length_set]; exact h.getD h1
/-- to note a chain -/
def addR (lo hi : Int) (tb : List (List CE)) (d : Nat) (key : Int) (x : CE) : List (List CE) :=
  if key < lo ∨ hi < key then tb
  else if (entR tb (d, key.toNat)).there = false ∨ ((entR tb (d, key.toNat)).ch.length = x.ch.length ∧ lessB x.ch (entR tb (d, key.toNat)).ch = true) then setR tb (d, key.toNat) x else tb
theorem addR_len {nd : Nat} {lo hi : Int} {tb : List (List CE)} (h : TbLen nd tb) {d : Nat} (hd : d < nd) {key : Int} {x : CE} : TbLen nd (addR lo hi tb d key x) := by
  unfold addR
  split
  · exact h
  · split
    · exact h.set hd x
    · exact h
theorem addR_ent {nd : Nat} {lo hi : Int} {tb : List (List CE)} (h : TbLen nd tb) {d : Nat} (hd : d < nd) (h0 : 0 ≤ lo) (h1 : hi ≤ 127) {key : Int} {x : CE} (q : Pl) : entR (addR lo hi tb d key x) q = x ∨ entR (addR lo hi tb d key x) q = entR tb q := by
  unfold addR
  split
  · exact .inr rfl
  · rename_i hk
    split
    · rw [entR_set h hd (by simp only; omega)]
      split
      · exact .inl rfl
      · exact .inr rfl
    · exact .inr rfl
theorem addR_tab {nd : Nat} {lo hi : Int} {tb : List (List CE)} (h : TbLen nd tb) {d : Nat} (hd : d < nd) (h0 : 0 ≤ lo) (h1 : hi ≤ 127) {key : Int} {x : CE} (hx : x.there = true) (hk : lo ≤ key ∧ key ≤ hi) : tabR (addR lo hi tb d key x) = addT (tabR tb) (d, key.toNat) ((x.src, x.pl), x.ch) := by
  funext q
  unfold addR
  rw [if_neg (by omega)]
  unfold addT
  by_cases hc : (entR tb (d, key.toNat)).there = false ∨ ((entR tb (d, key.toNat)).ch.length = x.ch.length ∧ lessB x.ch (entR tb (d, key.toNat)).ch = true)
  · rw [if_pos hc]
    unfold tabR
    rw [entR_set h hd (by simp only; omega)]
    by_cases e : q = (d, key.toNat)
    · subst e
      simp only [if_true, hx]
      rcases hc with hc | hc
      · rw [hc]; rfl
      · cases hth : (entR tb (d, key.toNat)).there with
        | false => rfl
        | true => simp only [if_true]; rw [if_pos hc]
    · rw [if_neg e, if_neg e]
  · rw [if_neg hc]
    unfold tabR
    by_cases e : q = (d, key.toNat)
    · subst e
      simp only [if_true]
      cases hth : (entR tb (d, key.toNat)).there with
      | false => exact absurd (.inl hth) hc
      | true =>
        simp only [if_true]
        rw [if_neg (fun h2 => hc (.inr h2))]
    · rw [if_neg e]
theorem addR_out {lo hi : Int} {tb : List (List CE)} {d : Nat} {key : Int} {x : CE} (hk : ¬ (lo ≤ key ∧ key ≤ hi)) : addR lo hi tb d key x = tb := by
  unfold addR; rw [if_pos (by omega)]
theorem flat_setR {tb : List (List CE)} {d k : Nat} {row : List CE} (hr : tb[d]? = some row) (x : CE) : setR tb (d, k) x = tb.set d (row.set k x) := by
  unfold setR; rw [getD_some hr]
/-- does a coupler take a key: by its place -/
def tk1B (c : Cp) (n i : Nat) : Bool := decide (c.only = 0) || (decide (c.only = 1) && decide (i = 0)) || (decide (c.only = 2) && decide (i + 1 = n))
theorem mem_takenL {c : Cp} (h0 : 0 ≤ c.only) (h2 : c.only ≤ 2) {l : List Nat} (hnd : l.Nodup) {i k : Nat} (hk : l[i]? = some k) : (k ∈ takenL c l) ↔ tk1B c l.length i = true := by
  have hi := (List.getElem?_eq_some_iff.1 hk)
  unfold takenL tk1B
  simp only [Bool.or_eq_true, Bool.and_eq_true, decide_eq_true_eq]
  have hinj : ∀ j, l[j]? = some k → j = i := fun j hj => by
    have hj' := (List.getElem?_eq_some_iff.1 hj)
    have h4 := List.pairwise_iff_getElem.1 (List.nodup_iff_pairwise_ne.1 hnd)
    rcases Nat.lt_trichotomy i j with h5 | h5 | h5
    · exact absurd (hi.2.trans hj'.2.symm) (h4 i j hi.1 hj'.1 h5)
    · exact h5.symm
    · exact absurd (hj'.2.trans hi.2.symm) (h4 j i hj'.1 hi.1 h5)
  split
  · rename_i h
    constructor
    · intro _; rcases h with h | h; exact absurd hi.1 (by omega); exact .inl (.inl h)
    · intro _; exact List.mem_of_getElem? hk
  · rename_i h
    split
    · rename_i h1
      constructor
      · intro hm
        obtain ⟨j, hj, e⟩ := List.getElem_of_mem hm
        have hj1 : j < 1 ∧ j < l.length := by rw [List.length_take] at hj; omega
        have : l[j]? = some k := by rw [List.getElem?_eq_getElem hj1.2]; rw [List.getElem_take] at e; rw [e]
        have := hinj j this
        exact .inl (.inr ⟨h1, by omega⟩)
      · intro hf
        have hi0 : i = 0 := by omega
        subst hi0
        rw [List.mem_iff_getElem?]
        exact ⟨0, by rw [List.getElem?_take]; simp [hk]⟩
    · rename_i h1
      constructor
      · intro hm
        obtain ⟨j, hj, e⟩ := List.getElem_of_mem hm
        rw [List.length_drop] at hj
        rw [List.getElem_drop] at e
        have : l[l.length - 1 + j]? = some k := by rw [List.getElem?_eq_getElem (by omega)]; rw [e]
        have := hinj _ this
        exact .inr ⟨by omega, by omega⟩
      · intro hf
        have hi0 : i = l.length - 1 := by omega
        subst hi0
        rw [List.mem_iff_getElem?]
        exact ⟨0, by rw [List.getElem?_drop]; simpa using hk⟩
end Go.Sn
namespace Go.Sn
open Go.Gv
/-! # The reference's rounds over its table -/
section
variable {A : Cx}
def plCE (d k : Nat) : CE := ⟨true, k, d, none, 0, []⟩
/-- a division's row with the first keys that are played -/
def rowPl (A : Cx) (d j : Nat) : List CE := ((A.kd d).take j).foldl (fun row k => row.set k (plCE d k)) (List.replicate 128 ce0)
theorem rowPl_snoc {d j k : Nat} (h : (A.kd d)[j]? = some k) : rowPl A d (j + 1) = (rowPl A d j).set k (plCE d k) := by
  unfold rowPl; rw [take_at h, List.foldl_append]; rfl
theorem rowPl_len (d j : Nat) : (rowPl A d j).length = 128 := by
  have key : ∀ (l : List Nat) (row : List CE), (l.foldl (fun row k => row.set k (plCE d k)) row).length = row.length := by
    intro l
    induction l with
    | nil => intro row; rfl
    | cons k l ih => intro row; rw [List.foldl_cons, ih, List.length_set]
  unfold rowPl
  rw [key, List.length_replicate]
theorem rowPl_get (d : Nat) : ∀ (l : List Nat) (row : List CE) (q : Nat), (∀ k ∈ l, k < row.length) → (l.foldl (fun row k => row.set k (plCE d k)) row).getD q ce0 = if q ∈ l then plCE d q else row.getD q ce0
  | [], row, q, _ => by simp
  | k :: l, row, q, h => by
    rw [List.foldl_cons, rowPl_get d l (row.set k (plCE d k)) q (fun k' hk' => by rw [List.length_set]; exact h k' (List.mem_cons_of_mem _ hk'))]
    by_cases h1 : q ∈ l
    · rw [if_pos h1, if_pos (List.mem_cons_of_mem _ h1)]
    · rw [if_neg h1, Gv.getD_set _ _ _ _ (h k List.mem_cons_self)]
      by_cases h2 : k = q
      · subst h2; rw [if_pos rfl, if_pos List.mem_cons_self]
      · rw [if_neg h2, if_neg (fun hm => by rcases List.mem_cons.1 hm with h3 | h3; exact h2 h3.symm; exact h1 h3)]
def tbPl (A : Cx) (k : Nat) : List (List CE) := (List.range k).map fun d => rowPl A d (A.kd d).length
theorem tbPl_snoc (k : Nat) : tbPl A (k + 1) = tbPl A k ++ [rowPl A k (A.kd k).length] := by unfold tbPl; rw [List.range_succ, List.map_append]; rfl
theorem tbPl_len (k : Nat) : TbLen k (tbPl A k) := ⟨by unfold tbPl; simp, fun r hr => by
  unfold tbPl at hr
  obtain ⟨d, _, rfl⟩ := List.mem_map.1 hr
  exact rowPl_len _ _⟩
theorem entR_pl (hA : A.Ok) (q : Pl) : entR (tbPl A A.ds.length) q = if q.2 ∈ A.kd q.1 then plCE q.1 q.2 else ce0 := by
  unfold entR
  by_cases hd : q.1 < A.ds.length
  · have e : (tbPl A A.ds.length).getD q.1 [] = rowPl A q.1 (A.kd q.1).length := by
      unfold tbPl
      rw [List.getD_eq_getElem?_getD, List.getElem?_map, List.getElem?_range hd]; rfl
    rw [e]
    unfold rowPl
    rw [List.take_length, rowPl_get _ _ _ _ (fun k hk => by
      rw [List.length_replicate]
      have := hA.key _ _ hk
      have := hA.rng _ hd
      omega)]
    split
    · rfl
    · rw [List.getD_eq_getElem?_getD, List.getElem?_replicate]; split <;> rfl
  · rw [if_neg (fun h => hd (kd_lt hA h))]
    have : (tbPl A A.ds.length).getD q.1 [] = [] := by
      rw [List.getD_eq_getElem?_getD, List.getElem?_eq_none (by rw [(tbPl_len (A := A) A.ds.length).len]; omega)]; rfl
    rw [this]; rfl
theorem tabR_pl (hA : A.Ok) (q : Pl) : tabR (tbPl A A.ds.length) q = if q.2 ∈ A.kd q.1 then some (q, []) else none := by
  unfold tabR
  rw [entR_pl hA]
  by_cases h : q.2 ∈ A.kd q.1
  · rw [if_pos h, if_pos h]; rfl
  · rw [if_neg h, if_neg h]; rfl
theorem tabOk_pl (hA : A.Ok) : TabOk A 0 (tabR (tbPl A A.ds.length)) := by
  refine ⟨fun q v hv => ?_, fun p cs q hp hl => ?_⟩
  · rw [tabR_pl hA] at hv
    split at hv
    · rename_i h
      cases hv
      refine ⟨⟨.played h, fun p' cs' hp' => ?_⟩, Nat.le_refl _⟩
      cases cs' with
      | nil => exact .inr ⟨rfl, rfl⟩
      | cons c cs' => exact .inl (by simp)
    · cases hv
  · have e : cs = [] := List.length_eq_zero_iff.1 (by omega)
    have h := (hp.nil e).2
    exact ⟨(q, []), by rw [tabR_pl hA, if_pos h]⟩
/-- one chain is noted -/
theorem Proc.addR (hA : A.Ok) {n : Nat} {T0 : Tab} {tb : List (List CE)} {done : Pl → Nat → Prop} (h : Proc A n T0 (tabR tb) done) (h0 : TabOk A n T0) (htb : TbLen A.ds.length tb) {q : Pl} {i : Nat} {v0 : Pl × List Nat} (hq : T0 q = some v0) (hn : v0.2.length = n) (hi : i ∈ A.dr) (hx : A.nx v0.2 q i = true) {c : Cp} (hc : A.cp i = c) {d : Dv} (hd : A.dv c.dst.toNat = d) {key : Int} (hk : key = (q.2 : Int) + c.shift) (r : Option Nat) (cc : Nat) :
    Proc A n T0 (tabR (Sn.addR d.lo d.hi tb c.dst.toNat key ⟨true, v0.1.2, v0.1.1, r, cc, v0.2 ++ [i]⟩)) (fun a b => done a b ∨ (a = q ∧ b = i)) := by
  subst hc; subst hd; subst hk
  have hdst := hA.dst i (hA.drn i hi)
  have hrg := hA.rng (A.cp i).dst.toNat (by omega)
  by_cases hin : (A.dv (A.cp i).dst.toNat).lo ≤ (q.2 : Int) + (A.cp i).shift ∧ (q.2 : Int) + (A.cp i).shift ≤ (A.dv (A.cp i).dst.toNat).hi
  · rw [addR_tab htb (by omega) hrg.1 hrg.2.2 rfl hin]
    exact h.add h0 hq hn hi hx (by unfold Cx.tgt; rw [if_pos hin])
  · rw [addR_out hin]
    exact h.skip (by unfold Cx.tgt; rw [if_neg hin])
/-- an entry with chains of n couplers was there before -/
theorem Proc.old {n : Nat} {T0 T : Tab} {done : Pl → Nat → Prop} (h : Proc A n T0 T done) {q : Pl} {v : Pl × List Nat} (hv : T q = some v) (hn : v.2.length = n) : T0 q = some v := by
  rcases h.new q v hv with h1 | ⟨_, q1, i, v0, _, h2, _, _, _, rfl⟩
  · exact h1
  · simp at hn; omega
theorem tabR_some {tb : List (List CE)} {q : Pl} (h : (entR tb q).there = true) : tabR tb q = some (((entR tb q).src, (entR tb q).pl), (entR tb q).ch) := by
  unfold tabR; rw [if_pos h]
theorem tabR_there {tb : List (List CE)} {q : Pl} {v : Pl × List Nat} (h : tabR tb q = some v) : (entR tb q).there = true ∧ (entR tb q).ch = v.2 := by
  unfold tabR at h
  split at h
  · rename_i h1; cases h; exact ⟨h1, rfl⟩
  · cases h
theorem TabOk.short (hA : A.Ok) {n : Nat} {T : Tab} (h : TabOk A n T) {q : Pl} {v : Pl × List Nat} (hv : T q = some v) : v.2.length < 768 := (h.best q v hv).1.short hA
theorem Proc.same {n : Nat} {T0 T : Tab} {done : Pl → Nat → Prop} (h : Proc A n T0 T done) (hn : ∀ q v, T0 q = some v → v.2.length ≠ n) : T = T0 := by
  funext q
  cases hT : T q with
  | none =>
    cases h0 : T0 q with
    | none => rfl
    | some v => rw [h.keep q v h0] at hT; cases hT
  | some v =>
    rcases h.new q v hT with h1 | ⟨_, q1, i, v0, h1, h2, _⟩
    · exact h1.symm
    · exact absurd h2 (hn q1 v0 h1)
/-- after a round -/
theorem Proc.round (hA : A.Ok) {n : Nat} {T0 T : Tab} {done : Pl → Nat → Prop} (h0 : TabOk A n T0) (h : Proc A n T0 T done) (hd : ∀ q v0, T0 q = some v0 → ∀ i, done q i) (more : Bool) (hm : more = false → ∀ q v, T0 q = some v → v.2.length ≠ n) : (more = true → TabOk A (n + 1) T) ∧ (more = false → Chains A T) := by
  refine ⟨fun _ => h.finish hA h0 fun q i v0 q' hq _ _ _ _ => hd q v0 hq i, fun hf => ?_⟩
  rw [h.same (hm hf)]
  exact h0.chains hA (hm hf)
theorem tab_rng (hA : A.Ok) {n : Nat} {T : Tab} (h : TabOk A n T) {q : Pl} {v : Pl × List Nat} (hv : T q = some v) : q.1 < A.ds.length ∧ q.2 < 128 :=
  ⟨(h.best q v hv).1.1.lt hA, (h.best q v hv).1.1.key hA⟩
end
end Go.Sn
namespace Go.Sn
open Go.Gv
open Go.RowKit
/-! ## Keys: what sounds in each division, and how it lies in memory -/
structure KG where
  r : Option Nat
  c : Nat
  ks : List Nat
def KG.cell (g : KG) : Value := .slice (rowA g.r) g.ks.length g.c
def KG.hl (t : TypeId) (g : KG) : HL := .row t 1 g.r g.ks.length g.c (g.ks.map natV)
def nilV : Value := .slice none 0 0
def rowK (T : Tab) (d n : Nat) : List Nat := (List.range n).filter fun k => (T (d, k)).isSome
def keysT (T : Tab) (nd : Nat) : List (List Nat) := (List.range nd).map fun d => rowK T d 128
def keysP (s : Org) (h : HN) : List (List Nat) := keysT (tabOf (actP (cxN s h)).tb) s.ds.length
theorem kg_put (G : List KG) (g : KG) (nd : Nat) (h : G.length < nd) : (G.map KG.cell ++ List.replicate (nd - G.length) nilV).set G.length g.cell = (G ++ [g]).map KG.cell ++ List.replicate (nd - (G.length + 1)) nilV := by
  have hl : (G.map KG.cell).length = G.length := List.length_map _
  rw [List.set_append_right _ _ (by omega), hl, Nat.sub_self, show nd - G.length = (nd - (G.length + 1)) + 1 by omega, List.replicate_succ, List.set_cons_zero, List.map_append, List.append_assoc]; rfl
theorem kg_tail (t : TypeId) (G : List KG) (g : KG) : G.map (KG.hl t) ++ [g.hl t] = (G ++ [g]).map (KG.hl t) := by rw [List.map_append]; rfl
theorem kg_len (G : List KG) (nd : Nat) (h : G.length ≤ nd) : (G.map KG.cell ++ List.replicate (nd - G.length) nilV).length = nd := by
  simp; omega
theorem rowK_snoc_t {T : Tab} {d n : Nat} (h : (T (d, n)).isSome = true) : rowK T d (n + 1) = rowK T d n ++ [n] := by
  unfold rowK
  rw [List.range_succ, List.filter_append]; simp [h]
theorem rowK_snoc_f {T : Tab} {d n : Nat} (h : (T (d, n)).isSome = false) : rowK T d (n + 1) = rowK T d n := by
  unfold rowK
  rw [List.range_succ, List.filter_append]; simp [h]
theorem rowK_len (T : Tab) (d n : Nat) : (rowK T d n).length ≤ n := by
  have := List.length_filter_le (fun k => (T (d, k)).isSome) (List.range n)
  simpa [rowK] using this
theorem keysT_take (T : Tab) (k : Nat) : keysT T (k + 1) = keysT T k ++ [rowK T k 128] := by
  unfold keysT; rw [List.range_succ, List.map_append]; rfl
theorem bits_act {A : Cx} (hA : A.Ok) {d : Nat} (hd : d < A.ds.length) : bitsOf ((actP A).sets.getD d 0) = rowK (tabOf (actP A).tb) d 128 := by
  unfold bitsOf rowK
  apply List.filter_congr
  intro n _
  have h := (act_set hA).has (d, n) hd
  unfold hasS at h
  rw [Bool.eq_iff_iff, h, Option.isSome_iff_exists]
theorem tabR_isSome (tb : List (List CE)) (q : Pl) : (tabR tb q).isSome = (entR tb q).there := by
  unfold tabR
  split
  · rename_i h; rw [h]; rfl
  · rename_i h; simp only [Option.isSome_none]; exact (Bool.eq_false_iff.2 h).symm
/-- the answer of Keys -/
def KeysR (ti ts : TypeId) (s : Org) (h : Hd) (v : Value) (L : List HL) : Prop :=
  (handErr s h ≠ 0 ∧ v = .tuple #[.slice none 0 0, .int .i64 (handErr s h)] ∧ L = []) ∨
  (handErr s h = 0 ∧ ∃ (n : HN) (r8 : Nat) (G : List KG), h = n.hd ∧ HGood s n ∧ G.map KG.ks = keysP s n ∧ v = .tuple #[.slice (rowA (some r8)) s.ds.length s.ds.length, .int .i64 0] ∧ L = .row ts 1 (some r8) s.ds.length s.ds.length (G.map KG.cell) :: G.map (KG.hl ti))
end Go.Sn
namespace Go.Sn
open Go.Gv
open Go.RowKit
/-! ## The pipes that sets of them hold -/
def pipesU (sets : List Nat) (k : Nat) : List Pl := (List.range k).flatMap fun d => (bitsOf (sets.getD d 0)).map fun n => (d, n)
def pipesI (sets : List Nat) (d X i : Nat) : List Pl := pipesU sets d ++ ((bitsOf X).take i).map fun n => (d, n)
theorem pipesI_zero (sets : List Nat) (d X : Nat) : pipesI sets d X 0 = pipesU sets d := by unfold pipesI; simp
theorem pipesI_all {sets : List Nat} {d X : Nat} (h : sets[d]? = some X) : pipesI sets d X (bitsOf X).length = pipesU sets (d + 1) := by
  unfold pipesI pipesU
  rw [List.range_succ, List.flatMap_append, List.take_length]
  simp only [List.flatMap_cons, List.flatMap_nil, List.append_nil]
  rw [getD_some h]
theorem pipesI_snoc {sets : List Nat} {d X i : Nat} (h : i < (bitsOf X).length) : pipesI sets d X (i + 1) = pipesI sets d X i ++ [(d, (bitsOf X).getD i 0)] := by
  obtain ⟨x, hx⟩ := get_some h
  unfold pipesI
  rw [take_at hx, getD_some hx, List.map_append, List.append_assoc]; rfl
theorem pipesU_len (sets : List Nat) : ∀ k, (pipesU sets k).length ≤ k * 128
  | 0 => Nat.le_refl _
  | k + 1 => by
    have h1 := pipesU_len sets k
    have h2 := bitsOf_len (sets.getD k 0)
    unfold pipesU at h1 ⊢
    rw [List.range_succ, List.flatMap_append, List.length_append]
    simp only [List.flatMap_cons, List.flatMap_nil, List.append_nil, List.length_map]
    omega
theorem pipesI_len (sets : List Nat) (d X i : Nat) : (pipesI sets d X i).length ≤ d * 128 + 128 := by
  have h1 := pipesU_len sets d
  have h2 := bitsOf_len X
  unfold pipesI
  rw [List.length_append, List.length_map, List.length_take]
  omega
end Go.Sn
namespace Go.Sn
open Go.Gv
open Go.RowKit
/-! ## How often a pipe is played -/
def hitB (p : Pt) (n : Nat) : Bool := decide (p.lo ≤ (n : Int)) && decide ((n : Int) ≤ p.hi)
def sameB (p q : Pt) : Bool := decide (p.rank = q.rank) && decide (p.shift = q.shift)
def ptA (ps : List Pt) (k : Nat) : Pt := ps.getD k default
def oldP (ps : List Pt) (n j m : Nat) : Bool := (List.range m).any fun k => sameB (ptA ps k) (ptA ps j) && hitB (ptA ps k) n
def newP (ps : List Pt) (n j : Nat) : Bool := hitB (ptA ps j) n && !(oldP ps n j j)
def pipeOf (p : Pt) (n : Nat) : Pl := (p.rank.toNat, ((n : Int) + p.shift).toNat)
def hitJ (ps : List Pt) (n : Nat) : Nat → Pl → Nat
  | 0, _ => 0
  | j + 1, q => hitJ ps n j q + if newP ps n j = true ∧ pipeOf (ptA ps j) n = q then 1 else 0
def playsB (x : St) (n : Nat) (q : Pl) : Bool := x.ps.any fun p => hitB p n && decide (pipeOf p n = q)
/-- the parts of a good stop -/
structure PtsOk (nr : Nat) (ps : List Pt) : Prop where
  rank : ∀ p ∈ ps, 0 ≤ p.rank ∧ p.rank < nr
  note : ∀ p ∈ ps, ∀ n : Nat, hitB p n = true → 0 ≤ (n : Int) + p.shift ∧ (n : Int) + p.shift ≤ 127
theorem pipe_same {nr : Nat} {ps : List Pt} (h : PtsOk nr ps) {p q : Pt} (hp : p ∈ ps) (hq : q ∈ ps) {n : Nat} (h1 : hitB p n = true) (h2 : hitB q n = true) (he : pipeOf p n = pipeOf q n) : sameB p q = true := by
  unfold pipeOf at he
  simp only [Prod.mk.injEq] at he
  have a := h.rank p hp; have b := h.rank q hq; have c := h.note p hp n h1; have d := h.note q hq n h2
  unfold sameB
  simp only [Bool.and_eq_true, decide_eq_true_eq]
  omega
theorem ptA_mem {ps : List Pt} {k : Nat} (h : k < ps.length) : ptA ps k ∈ ps := by
  unfold ptA
  obtain ⟨x, hx⟩ := get_some h
  rw [getD_some hx]; exact List.mem_of_getElem? hx
theorem hitJ_ex {ps : List Pt} {n : Nat} {q : Pl} : ∀ j, hitJ ps n j q ≠ 0 → ∃ k, k < j ∧ hitB (ptA ps k) n = true ∧ pipeOf (ptA ps k) n = q
  | 0, h => absurd rfl h
  | j + 1, h => by
    unfold hitJ at h
    split at h
    · rename_i h1
      unfold newP at h1
      simp only [Bool.and_eq_true] at h1
      exact ⟨j, by omega, h1.1.1, h1.2⟩
    · obtain ⟨k, hk, h2⟩ := hitJ_ex j h
      exact ⟨k, by omega, h2⟩
theorem hitJ_le {nr : Nat} {ps : List Pt} (h : PtsOk nr ps) {n : Nat} {q : Pl} : ∀ j, j ≤ ps.length → hitJ ps n j q ≤ 1
  | 0, _ => Nat.zero_le _
  | j + 1, hj => by
    have h1 := hitJ_le h (n := n) (q := q) j (by omega)
    unfold hitJ
    split
    · rename_i h2
      by_cases h3 : hitJ ps n j q = 0
      · omega
      · obtain ⟨k, hk, h4, h5⟩ := hitJ_ex j h3
        exfalso
        have h6 := h2.1
        unfold newP at h6
        simp only [Bool.and_eq_true, Bool.not_eq_true'] at h6
        have h7 : oldP ps n j j = true := by
          unfold oldP
          rw [List.any_eq_true]
          exact ⟨k, List.mem_range.2 hk, by rw [Bool.and_eq_true]; exact ⟨pipe_same h (ptA_mem (by omega)) (ptA_mem (by omega)) h4 h6.1 (h5.trans h2.2.symm), h4⟩⟩
        rw [h7] at h6; cases h6.2
    · omega
theorem hitJ_pos {ps : List Pt} {n : Nat} {q : Pl} : ∀ j, (∃ k, k < j ∧ hitB (ptA ps k) n = true ∧ pipeOf (ptA ps k) n = q) → hitJ ps n j q ≠ 0
  | 0, ⟨k, hk, _⟩ => absurd hk (Nat.not_lt_zero k)
  | j + 1, ⟨k, hk, h1, h2⟩ => by
    unfold hitJ
    by_cases h3 : ∃ k, k < j ∧ hitB (ptA ps k) n = true ∧ pipeOf (ptA ps k) n = q
    · have := hitJ_pos j h3; omega
    · have hkj : k = j := by
        rcases Nat.lt_or_ge k j with h | h
        · exact absurd ⟨k, h, h1, h2⟩ h3
        · omega
      subst hkj
      rw [if_pos]
      · omega
      · refine ⟨?_, h2⟩
        unfold newP
        rw [h1, Bool.true_and, Bool.not_eq_true']
        unfold oldP
        rw [List.any_eq_false]
        intro i hi h4
        simp only [Bool.and_eq_true] at h4
        refine h3 ⟨i, List.mem_range.1 hi, h4.2, ?_⟩
        have h5 := h4.1
        unfold sameB at h5
        simp only [Bool.and_eq_true, decide_eq_true_eq] at h5
        unfold pipeOf at h2 ⊢
        rw [h5.1, h5.2]; exact h2
theorem hitJ_all {nr : Nat} {x : St} (h : PtsOk nr x.ps) (n : Nat) (q : Pl) : hitJ x.ps n x.ps.length q = if playsB x n q = true then 1 else 0 := by
  have h1 := hitJ_le h (n := n) (q := q) x.ps.length (Nat.le_refl _)
  split
  · rename_i h2
    unfold playsB at h2
    rw [List.any_eq_true] at h2
    obtain ⟨p, hp, h3⟩ := h2
    simp only [Bool.and_eq_true, decide_eq_true_eq] at h3
    obtain ⟨k, hk⟩ := List.getElem?_of_mem hp
    have := hitJ_pos (ps := x.ps) (n := n) (q := q) x.ps.length ⟨k, (List.getElem?_eq_some_iff.1 hk).1, by unfold ptA; rw [getD_some hk]; exact h3⟩
    omega
  · rename_i h2
    by_cases h3 : hitJ x.ps n x.ps.length q = 0
    · exact h3
    · obtain ⟨k, hk, h4, h5⟩ := hitJ_ex _ h3
      refine absurd ?_ h2
      unfold playsB
      rw [List.any_eq_true]
      exact ⟨_, ptA_mem hk, by simp [h4, h5]⟩
def cntK (x : St) : List Nat → Pl → Nat
  | [], _ => 0
  | n :: l, q => (if playsB x n q = true then 1 else 0) + cntK x l q
theorem cntK_snoc (x : St) (n : Nat) (q : Pl) : ∀ l, cntK x (l ++ [n]) q = cntK x l q + if playsB x n q = true then 1 else 0
  | [] => by simp [cntK]
  | m :: l => by rw [List.cons_append, cntK, cntK, cntK_snoc x n q l, Nat.add_assoc]
theorem cntK_le (x : St) (q : Pl) : ∀ l, cntK x l q ≤ l.length
  | [] => Nat.le_refl _
  | n :: l => by
    have := cntK_le x q l
    unfold cntK
    split <;> simp only [List.length_cons] <;> omega
def stA (s : Org) (i : Nat) : St := s.ss.getD i default
def cntS (s : Org) (KS : List (List Nat)) : List Nat → Pl → Nat
  | [], _ => 0
  | i :: l, q => cntK (stA s i) (KS.getD (stA s i).div.toNat []) q + cntS s KS l q
theorem cntS_snoc (s : Org) (KS : List (List Nat)) (i : Nat) (q : Pl) : ∀ l, cntS s KS (l ++ [i]) q = cntS s KS l q + cntK (stA s i) (KS.getD (stA s i).div.toNat []) q
  | [] => by simp [cntS]
  | m :: l => by rw [List.cons_append, cntS, cntS, cntS_snoc s KS i q l, Nat.add_assoc]
theorem cntS_le (s : Org) (KS : List (List Nat)) (q : Pl) (hk : ∀ l ∈ KS, l.length ≤ 128) : ∀ l, cntS s KS l q ≤ l.length * 128
  | [] => Nat.le_refl _
  | i :: l => by
    have h1 := cntS_le s KS q hk l
    have h2 := cntK_le (stA s i) q (KS.getD (stA s i).div.toNat [])
    have h3 : (KS.getD (stA s i).div.toNat []).length ≤ 128 := by
      rw [List.getD_eq_getElem?_getD]
      cases h : KS[(stA s i).div.toNat]? with
      | none => simp
      | some r => exact hk r (List.mem_of_getElem? h)
    unfold cntS
    simp only [List.length_cons]
    omega
/-! ### the table in memory -/
def rowC (f : Pl → Nat) (r : Nat) : List Value := (List.range 128).map fun p => natV (f (r, p))
theorem rowC_len (f : Pl → Nat) (r : Nat) : (rowC f r).length = 128 := by unfold rowC; simp
def cntC (nr : Nat) (f : Pl → Nat) : List Value := (List.range nr).flatMap (rowC f)
theorem cntC_len (nr : Nat) (f : Pl → Nat) : (cntC nr f).length = nr * 128 := by
  unfold cntC; rw [flat_len (rowC f) 128 (rowC_len f), List.length_range]
theorem range_at {n k : Nat} (h : k < n) : (List.range n)[k]? = some k := by rw [List.getElem?_range h]
theorem cntC_get {nr : Nat} (f : Pl → Nat) {r p : Nat} (hr : r < nr) (hp : p < 128) : (cntC nr f)[r * 128 + p]? = some (natV (f (r, p))) := by
  unfold cntC
  rw [flat_get (rowC f) 128 (rowC_len f) 0 (List.range nr) r p (by simpa using hr) hp, getD_some (range_at hr)]
  unfold rowC
  rw [List.getElem?_map, range_at hp]; rfl
theorem cntC_set {nr : Nat} (f f' : Pl → Nat) {r p : Nat} (hr : r < nr) (hp : p < 128) {v : Value} (hv : v = natV (f' (r, p))) (hf : ∀ q : Pl, q ≠ (r, p) → f' q = f q) : (cntC nr f).set (r * 128 + p) v = cntC nr f' := by
  subst hv
  apply List.ext_getElem?
  intro k
  rcases Nat.lt_or_ge k (nr * 128) with hk | hk
  · have e : k = (k / 128) * 128 + k % 128 := by omega
    have h1 : k / 128 < nr := by omega
    have h2 : k % 128 < 128 := Nat.mod_lt _ (by decide)
    rw [List.getElem?_set]
    by_cases hkk : r * 128 + p = k
    · have hr9 : r = k / 128 := by omega
      have hp9 : p = k % 128 := by omega
      rw [if_pos hkk, if_pos (by rw [cntC_len]; omega)]
      rw [e, cntC_get f' h1 h2, ← hr9, ← hp9]
    · rw [if_neg hkk, e, cntC_get f h1 h2, cntC_get f' h1 h2, hf]
      intro he
      simp only [Prod.mk.injEq] at he
      omega
  · rw [List.getElem?_eq_none (by rw [List.length_set, cntC_len]; exact hk), List.getElem?_eq_none (by rw [cntC_len]; exact hk)]
theorem cntC_row {nr : Nat} (f : Pl → Nat) {r : Nat} (hr : r < nr) : ((cntC nr f).drop (r * 128)).take 128 = rowC f r := flat_drop_get (rowC f) 128 (rowC_len f) (range_at hr)
/-- what a good specification's stops are -/
theorem stop_ok {s : Org} {h : HN} (hg : HGood s h) {i : Nat} {x : St} (hx : s.ss[i]? = some x) : 0 ≤ x.div ∧ x.div < s.ds.length ∧ PtsOk s.rs.length x.ps ∧ x.ps.length ≤ 12 ∧ (∀ p ∈ x.ps, 0 ≤ p.lo ∧ p.hi ≤ 127 ∧ -96 ≤ p.shift ∧ p.shift ≤ 96) := by
  have hi : i < s.ss.length := (List.getElem?_eq_some_iff.1 hx).1
  obtain ⟨_, hd, hr, ht, _⟩ := checkP_facts hg.spec
  have h1 := ht i hi
  unfold stO at h1
  split at h1
  · cases h1
  rename_i h2
  have h3 : stErr s.ds.length s.ss i = 0 := by omega
  have h4 : ∀ k, k < x.ps.length → ptErr s.rs (s.ds.getD x.div.toNat default) (x.ps.getD k default) = 0 := by
    rw [getD_some hx] at h1
    split at h1
    · cases h1
    · rename_i he
      intro k hk
      have := firstO_none_iff he k (Nat.zero_le _) (by omega)
      simp only at this
      split at this
      · assumption
      · cases this
  unfold stErr at h3
  rw [getD_some hx] at h3
  simp only at h3
  split at h3
  · cases h3
  split at h3
  · cases h3
  rename_i h5
  split at h3
  · cases h3
  split at h3
  · cases h3
  split at h3
  · cases h3
  rename_i h6
  have h69 : ¬ 12 < x.ps.length := by simpa using h6
  have h7 : idxB x.div s.ds.length = true := by simpa using h5
  unfold idxB at h7
  simp only [Bool.and_eq_true, decide_eq_true_eq] at h7
  have hlo := hg.cx.rng x.div.toNat (show x.div.toNat < s.ds.length by omega)
  have hdv : (cxN s h).dv x.div.toNat = s.ds.getD x.div.toNat default := rfl
  rw [hdv] at hlo
  have h8 : ∀ p ∈ x.ps, (0 ≤ p.rank ∧ p.rank < s.rs.length) ∧ ((s.ds.getD x.div.toNat default).lo ≤ p.lo ∧ p.lo ≤ p.hi ∧ p.hi ≤ (s.ds.getD x.div.toNat default).hi ∧ -96 ≤ p.shift ∧ p.shift ≤ 96) ∧ (s.rs.getD p.rank.toNat default).low ≤ p.lo + p.shift ∧ p.hi + p.shift < (s.rs.getD p.rank.toNat default).low + (s.rs.getD p.rank.toNat default).count := fun p hp => by
    obtain ⟨k, hk⟩ := List.getElem?_of_mem hp
    have h9 := h4 k (List.getElem?_eq_some_iff.1 hk).1
    rw [getD_some hk] at h9
    unfold ptErr at h9
    split at h9
    · cases h9
    rename_i g1
    split at h9
    · cases h9
    rename_i g2
    split at h9
    · cases h9
    rename_i g3
    simp only [Bool.not_eq_false] at g1 g2 g3
    unfold idxB at g1; unfold ptRange at g2; unfold ptHas at g3
    simp only [Bool.and_eq_true, decide_eq_true_eq] at g1 g2 g3
    exact ⟨g1, ⟨g2.1.1.1.1, g2.1.1.1.2, g2.1.1.2, g2.1.2, g2.2⟩, g3⟩
  refine ⟨h7.1, h7.2, ⟨fun p hp => (h8 p hp).1, fun p hp n hn => ?_⟩, by omega, fun p hp => ?_⟩
  · obtain ⟨g1, g2, g3, g4⟩ := h8 p hp
    unfold hitB at hn
    simp only [Bool.and_eq_true, decide_eq_true_eq] at hn
    have hrk := hr p.rank.toNat (by omega)
    unfold rkErr at hrk
    split at hrk
    · cases hrk
    split at hrk
    · cases hrk
    split at hrk
    · cases hrk
    split at hrk
    · cases hrk
    rename_i g5
    unfold rkBad at g5
    simp only [Bool.not_eq_true', Bool.not_eq_true, Bool.not_eq_false, Bool.and_eq_true, decide_eq_true_eq] at g5
    omega
  · obtain ⟨g1, g2, g3, g4⟩ := h8 p hp
    omega
end Go.Sn
namespace Go.Sn
open Go.Gv
open Go.RowKit
/-! ## The count, step by step -/
theorem own_new {w0 w : World} {l : List HL} (ho : Own w0 [] w l) : ∀ b ∈ l.filterMap HL.block, w0.heap.size ≤ b := fun b hb => by
  obtain ⟨y, hy, hyb⟩ := List.mem_filterMap.1 hb
  rcases ho.place y hy b hyb with h | h
  · cases h
  · exact h
theorem rd_addE {dm : List Deferred} {P : Program} {n : Nat} {e : Env} {w0 : World} {S : List Nat} {l : List HL} {dst : Option Tmp} {ty t ty' : TypeId} {pos : String} {aft : Array Edge} {gd : Option (Nat × Bool)} {x y : Operand} {p q : Int} (r : Int) (hx : e.ev x = some (.int .i64 p)) (hy : e.ev y = some (.int .i64 q)) (h : p + q = r) (h1 : -9223372036854775808 ≤ r) (h2 : r ≤ 9223372036854775807) : Rd P dm n e w0 S l ⟨dst, .binOp .add t x y ty', ty, pos, aft, gd⟩ (.int .i64 r) := by
  subst h; exact rd_add hx hy h1 h2
def cntW (b : Pl → Nat) (x : St) (ks : List Nat) (i j : Nat) (q : Pl) : Nat := b q + cntK x (ks.take i) q + hitJ x.ps (ks.getD i 0) j q
section
variable {b : Pl → Nat} {x : St} {ks : List Nat} {i j nr : Nat} {q : Pl}
theorem cntW_zero (b : Pl → Nat) (x : St) (ks : List Nat) : cntW b x ks 0 0 = b := by
  funext q
  unfold cntW
  rw [List.take_zero]; simp [cntK, hitJ]
theorem cntW_next (h : PtsOk nr x.ps) (hi : i < ks.length) : cntW b x ks i x.ps.length = cntW b x ks (i + 1) 0 := by
  funext q
  obtain ⟨n, hn⟩ := get_some hi
  unfold cntW
  rw [hitJ_all h, take_at hn, cntK_snoc, getD_some hn]
  simp only [hitJ]
  omega
theorem cntW_all (b : Pl → Nat) (x : St) (ks : List Nat) : cntW b x ks ks.length 0 = fun q => b q + cntK x ks q := by
  funext q
  unfold cntW
  rw [List.take_length]; simp [hitJ]
theorem cntW_no (h : newP x.ps (ks.getD i 0) j = false) : cntW b x ks i (j + 1) = cntW b x ks i j := by
  funext q
  unfold cntW
  rw [hitJ, if_neg (by rw [h]; simp)]; rfl
theorem cntW_yes (h : newP x.ps (ks.getD i 0) j = true) (q : Pl) : cntW b x ks i (j + 1) q = cntW b x ks i j q + if pipeOf (ptA x.ps j) (ks.getD i 0) = q then 1 else 0 := by
  unfold cntW
  rw [hitJ, h]
  simp only [true_and]
  omega
theorem cntW_le (h : PtsOk nr x.ps) (hj : j ≤ x.ps.length) : cntW b x ks i j q ≤ b q + ks.length + 1 := by
  have h1 := hitJ_le h (n := ks.getD i 0) (q := q) j hj
  have h2 := cntK_le x q (ks.take i)
  have h3 : (ks.take i).length ≤ ks.length := by rw [List.length_take]; omega
  unfold cntW
  omega
end
theorem oldP_succ (ps : List Pt) (n j m : Nat) : oldP ps n j (m + 1) = (oldP ps n j m || (sameB (ptA ps m) (ptA ps j) && hitB (ptA ps m) n)) := by
  unfold oldP
  rw [List.range_succ, List.any_append]; simp
theorem oldP_mono {ps : List Pt} {n j m m' : Nat} (h : oldP ps n j m = true) (hm : m ≤ m') : oldP ps n j m' = true := by
  unfold oldP at h ⊢
  rw [List.any_eq_true] at h ⊢
  obtain ⟨k, hk, h2⟩ := h
  exact ⟨k, List.mem_range.2 (by have := List.mem_range.1 hk; omega), h2⟩
/-- the count of a hand -/
def cntP (s : Org) (h : HN) (k : Nat) : Pl → Nat := cntS s (keysP s h) (h.ss.take k)
theorem cntP_zero (s : Org) (h : HN) : cntP s h 0 = fun _ => 0 := by unfold cntP; rw [List.take_zero]; funext q; rfl
theorem cntP_next {s : Org} {h : HN} {k i : Nat} (hi : h.ss[k]? = some i) : (fun q => cntP s h k q + cntK (stA s i) ((keysP s h).getD (stA s i).div.toNat []) q) = cntP s h (k + 1) := by
  funext q
  unfold cntP
  rw [take_at hi, cntS_snoc]
theorem keysP_len (s : Org) (h : HN) : ∀ l ∈ keysP s h, l.length ≤ 128 := fun l hl => by
  unfold keysP keysT at hl
  obtain ⟨d, _, rfl⟩ := List.mem_map.1 hl
  exact rowK_len _ _ _
theorem keysP_at {s : Org} {h : HN} (hA : (cxN s h).Ok) {d X : Nat} (hd : d < s.ds.length) (hX : (actP (cxN s h)).sets[d]? = some X) : (keysP s h).getD d [] = bitsOf X := by
  have h1 : (keysP s h)[d]? = some (rowK (tabOf (actP (cxN s h)).tb) d 128) := by
    unfold keysP keysT
    rw [List.getElem?_map, range_at hd]; rfl
  rw [getD_some h1, ← bits_act hA (show d < (cxN s h).ds.length from hd), getD_some hX]
theorem cntP_le (s : Org) (h : HN) (k : Nat) (q : Pl) : cntP s h k q ≤ k * 128 := by
  have h1 := cntS_le s (keysP s h) q (keysP_len s h) (h.ss.take k)
  have h2 : (h.ss.take k).length ≤ k := by rw [List.length_take]; omega
  unfold cntP
  have := Nat.mul_le_mul_right 128 h2
  omega
theorem flat_const (l : List Nat) : ∀ l' : List Nat, l.length = l'.length → l.flatMap (rowC fun _ => 0) = l'.flatMap (rowC fun _ => 0) := by
  induction l with
  | nil => intro l' h; rw [List.length_eq_zero_iff.1 h.symm]
  | cons a l ih =>
    intro l' h
    cases l' with
    | nil => cases h
    | cons b l' =>
      simp only [List.length_cons, Nat.add_right_cancel_iff] at h
      rw [List.flatMap_cons, List.flatMap_cons, ih l' h]; rfl
theorem cnt_made (s : Org) (h : HN) {z : Value} (hz : z.cells.toList = rowC (fun _ => 0) 0) (nr : Nat) : (madeCells z.cells (nr * 128)).toList = cntC nr (cntP s h 0) := by
  rw [made_flat (rowC fun _ => 0) 128 z 0 hz (rowC_len _) (by decide), cntP_zero]
  unfold cntC
  exact flat_const _ _ (by simp)
end Go.Sn
namespace Go.Sn
open Go.Gv
open Go.RowKit
/-! ## The sets of the pipes that sound -/
structure SetU (nr : Nat) (f : Pl → Nat) (r k : Nat) (sets : List Nat) : Prop where
  len : sets.length = nr
  lt : ∀ x ∈ sets, x < 2 ^ 128
  has : ∀ q : Pl, q.1 < nr → q.2 < 128 → (hasS sets q = true ↔ (q.1 < r ∨ (q.1 = r ∧ q.2 < k)) ∧ 0 < f q)
theorem SetU.init (nr : Nat) (f : Pl → Nat) : SetU nr f 0 0 (List.replicate nr 0) := by
  refine ⟨by simp, fun x hx => ?_, fun q hq h2 => ?_⟩
  · rw [List.eq_of_mem_replicate hx]; decide
  · unfold hasS
    rw [List.getD_eq_getElem?_getD, List.getElem?_replicate_of_lt hq]
    simp only [Option.getD_some, Nat.zero_testBit]
    constructor
    · intro h; cases h
    · rintro ⟨h, _⟩; omega
section
variable {nr r k : Nat} {f : Pl → Nat} {sets : List Nat}
theorem SetU.no (h : SetU nr f r k sets) (hf : f (r, k) = 0) : SetU nr f r (k + 1) sets := by
  refine ⟨h.len, h.lt, fun q hq h2 => ?_⟩
  rw [h.has q hq h2]
  constructor
  · rintro ⟨h3, h4⟩; exact ⟨by omega, h4⟩
  · rintro ⟨h3, h4⟩
    refine ⟨?_, h4⟩
    by_cases e : q = (r, k)
    · subst e; omega
    · rcases h3 with h3 | ⟨h3, h5⟩
      · exact .inl h3
      · refine .inr ⟨h3, ?_⟩
        have : q.2 ≠ k := fun e2 => e (Prod.ext h3 e2)
        omega
theorem SetU.yes (h : SetU nr f r k sets) (hr : r < nr) (hk : k < 128) (hf : 0 < f (r, k)) : SetU nr f r (k + 1) (addSet sets (r, k)) := by
  refine ⟨by unfold addSet; rw [List.length_set]; exact h.len, fun x hx => ?_, fun q hq h2 => ?_⟩
  · unfold addSet at hx
    rcases List.mem_or_eq_of_mem_set hx with hx | rfl
    · exact h.lt x hx
    · exact or_lt128 (getD_lt h.lt r) hk
  · rw [hasS_add (by rw [h.len]; exact hr), Bool.or_eq_true, h.has q hq h2, decide_eq_true_eq]
    constructor
    · rintro (⟨h3, h4⟩ | rfl)
      · exact ⟨by omega, h4⟩
      · exact ⟨.inr ⟨rfl, by simp only; omega⟩, hf⟩
    · rintro ⟨h3, h4⟩
      by_cases e : q = (r, k)
      · exact .inr e
      · refine .inl ⟨?_, h4⟩
        rcases h3 with h3 | ⟨h3, h5⟩
        · exact .inl h3
        · refine .inr ⟨h3, ?_⟩
          have : q.2 ≠ k := fun e2 => e (Prod.ext h3 e2)
          omega
theorem SetU.next (h : SetU nr f r 128 sets) : SetU nr f (r + 1) 0 sets := by
  refine ⟨h.len, h.lt, fun q hq h2 => ?_⟩
  rw [h.has q hq h2]
  constructor
  · rintro ⟨h3, h4⟩; exact ⟨by omega, h4⟩
  · rintro ⟨h3, h4⟩; exact ⟨by omega, h4⟩
/-- the pipes that are played, in their order -/
def pipesP (nr : Nat) (f : Pl → Nat) : List Pl := (List.range nr).flatMap fun r => ((List.range 128).filter fun p => decide (0 < f (r, p))).map fun p => (r, p)
theorem flat_congr {α β : Type} {g g' : α → List β} : ∀ {l : List α}, (∀ x ∈ l, g x = g' x) → l.flatMap g = l.flatMap g'
  | [], _ => rfl
  | a :: l, h => by rw [List.flatMap_cons, List.flatMap_cons, h a List.mem_cons_self, flat_congr fun x hx => h x (List.mem_cons_of_mem _ hx)]
theorem SetU.pipes (h : SetU nr f nr 0 sets) : pipesU sets nr = pipesP nr f := by
  unfold pipesU pipesP
  apply flat_congr
  intro r hr
  have hr := List.mem_range.1 hr
  congr 1
  unfold bitsOf
  apply List.filter_congr
  intro p hp
  have hp := List.mem_range.1 hp
  have h1 := h.has (r, p) hr hp
  unfold hasS at h1
  rw [Bool.eq_iff_iff, decide_eq_true_eq, h1]
  constructor
  · exact fun h => h.2
  · exact fun h => ⟨.inl hr, h⟩
end
theorem pipesP_len (f : Pl → Nat) : ∀ nr, (pipesP nr f).length ≤ nr * 128
  | 0 => Nat.le_refl _
  | n + 1 => by
    have h1 := pipesP_len f n
    have h2 := List.length_filter_le (fun p => decide (0 < f (n, p))) (List.range 128)
    unfold pipesP at h1 ⊢
    rw [show List.range (n + 1) = List.range n ++ [n] from List.range_succ, List.flatMap_append, List.length_append]
    simp only [List.flatMap_cons, List.flatMap_nil, List.append_nil, List.length_map]
    simp only [List.length_range] at h2
    omega
/-- what sounds -/
def soundP (s : Org) (h : HN) : List Pl := pipesP s.rs.length (cntP s h h.ss.length)
/-- the answer of Pipes -/
def PipesR (tp : TypeId) (s : Org) (h : Hd) (v : Value) (L : List HL) : Prop :=
  (handErr s h ≠ 0 ∧ v = .tuple #[.slice none 0 0, .int .i64 (handErr s h)] ∧ L = []) ∨
  (handErr s h = 0 ∧ ∃ (n : HN) (r : Option Nat) (c : Nat), h = n.hd ∧ HGood s n ∧ v = .tuple #[.slice (rowA r) (soundP s n).length c, .int .i64 0] ∧ L = [.row tp 2 r (soundP s n).length c ((soundP s n).flatMap plC)])
end Go.Sn
namespace Go.Sn
open Go.Gv
open Go.RowKit
/-! ## Whether a stop plays a pipe with a key (of any pipe) -/
def plZ (p : Pt) (n : Nat) (r0 p0 : Int) : Bool := decide (p.rank = r0) && decide (p.lo ≤ (n : Int)) && decide ((n : Int) ≤ p.hi) && decide ((n : Int) + p.shift = p0)
def playsZ (x : St) (n : Nat) (r0 p0 : Int) : Bool := x.ps.any fun p => plZ p n r0 p0
theorem playsZ_t {x : St} {n k : Nat} {r0 p0 : Int} {p : Pt} (hp : x.ps[k]? = some p) (h : plZ p n r0 p0 = true) : playsZ x n r0 p0 = true := by
  unfold playsZ; rw [List.any_eq_true]; exact ⟨p, List.mem_of_getElem? hp, h⟩
theorem playsZ_f {x : St} {n : Nat} {r0 p0 : Int} (h : ∀ j, j < x.ps.length → plZ (ptA x.ps j) n r0 p0 = false) : playsZ x n r0 p0 = false := by
  unfold playsZ; rw [List.any_eq_false]
  intro p hp hq
  obtain ⟨k, hk⟩ := List.getElem?_of_mem hp
  have := h k (List.getElem?_eq_some_iff.1 hk).1
  unfold ptA at this
  rw [getD_some hk, hq] at this; cases this
theorem all_snocZ {P : Nat → Prop} {k : Nat} (h : ∀ j, j < k → P j) (hk : P k) : ∀ j, j < k + 1 → P j := fun j hj => by
  rcases Nat.lt_or_ge j k with h1 | h1
  · exact h j h1
  · rw [show j = k by omega]; exact hk
theorem playsZ_B {nr : Nat} {x : St} (h : PtsOk nr x.ps) (n : Nat) (q : Pl) : playsZ x n q.1 q.2 = playsB x n q := by
  unfold playsZ playsB
  rw [Bool.eq_iff_iff, List.any_eq_true, List.any_eq_true]
  have key : ∀ p ∈ x.ps, plZ p n q.1 q.2 = true ↔ (hitB p n && decide (pipeOf p n = q)) = true := fun p hp => by
    have h1 := h.rank p hp
    have h2 := h.note p hp n
    unfold plZ
    simp only [Bool.and_eq_true, decide_eq_true_eq]
    constructor
    · rintro ⟨⟨⟨a, b⟩, c⟩, d⟩
      refine ⟨by unfold hitB; simp [b, c], ?_⟩
      unfold pipeOf
      exact Prod.ext (by simp only; omega) (by simp only; omega)
    · rintro ⟨a, b⟩
      have h3 := h2 a
      unfold hitB at a
      simp only [Bool.and_eq_true, decide_eq_true_eq] at a
      subst b
      unfold pipeOf
      simp only
      omega
  constructor
  · rintro ⟨p, hp, h9⟩; exact ⟨p, hp, (key p hp).1 h9⟩
  · rintro ⟨p, hp, h9⟩; exact ⟨p, hp, (key p hp).2 h9⟩
end Go.Sn
namespace Go.Sn
open Go.Gv
open Go.RowKit
/-! ## Each place that acts names the one before it -/
inductive Lk : List En → Prop
  | nil : Lk []
  | put (tb : List En) (q : Pl) : Lk tb → tabOf tb q = none → Lk (tb ++ [⟨q, -1, (0, 0), q, []⟩])
  | step (tb : List En) (q p : Pl) (i : Nat) (v : Pl × List Nat) : Lk tb → tabOf tb q = none → tabOf tb p = some v → Lk (tb ++ [⟨q, i, p, v.1, v.2 ++ [i]⟩])
def InT (tb : List En) (l : List Pl) : Prop := ∀ p ∈ l, ∃ v, tabOf tb p = some v
theorem tab_mono {tb : List En} {e : En} {q : Pl} {v : Pl × List Nat} (h : tabOf tb q = some v) : tabOf (tb ++ [e]) q = some v := by rw [tabOf_snoc, h]
theorem InT.mono {tb : List En} {e : En} {l : List Pl} (h : InT tb l) : InT (tb ++ [e]) l := fun p hp => by
  obtain ⟨v, hv⟩ := h p hp
  exact ⟨v, tab_mono hv⟩
theorem find_snoc (tb : List En) (e : En) (q : Pl) : findEn (tb ++ [e]) q = match findEn tb q with | some x => some x | none => if e.q = q then some e else none := by
  unfold findEn
  rw [List.find?_append]
  cases h : tb.find? (fun e => decide (e.q = q)) with
  | some v => simp
  | none =>
    simp only [Option.none_or, List.find?_cons, List.find?_nil]
    by_cases h2 : e.q = q <;> simp [h2]
theorem Lk.get {tb : List En} (h : Lk tb) : ∀ {q : Pl} {e : En}, findEn tb q = some e → (e.i = -1 ∧ tabOf tb q = some (q, [])) ∨ ∃ (i : Nat) (v : Pl × List Nat), e.i = i ∧ tabOf tb e.p = some v ∧ tabOf tb q = some (v.1, v.2 ++ [i]) := by
  induction h with
  | nil => intro q e h; cases h
  | put tb q0 h0 hno ih =>
    intro q e he
    rw [find_snoc] at he
    cases hf : findEn tb q with
    | some x =>
      rw [hf] at he
      simp only [Option.some.injEq] at he
      subst he
      rcases ih hf with ⟨h1, h2⟩ | ⟨i, v, h1, h2, h3⟩
      · exact .inl ⟨h1, tab_mono h2⟩
      · exact .inr ⟨i, v, h1, tab_mono h2, tab_mono h3⟩
    | none =>
      rw [hf] at he
      simp only at he
      split at he
      · rename_i hq
        simp only [Option.some.injEq] at he
        subst he
        subst hq
        refine .inl ⟨rfl, ?_⟩
        rw [tabOf_snoc, hno]; simp
      · cases he
  | step tb q0 p i v h0 hno hp ih =>
    intro q e he
    rw [find_snoc] at he
    cases hf : findEn tb q with
    | some x =>
      rw [hf] at he
      simp only [Option.some.injEq] at he
      subst he
      rcases ih hf with ⟨h1, h2⟩ | ⟨i', v', h1, h2, h3⟩
      · exact .inl ⟨h1, tab_mono h2⟩
      · exact .inr ⟨i', v', h1, tab_mono h2, tab_mono h3⟩
    | none =>
      rw [hf] at he
      simp only at he
      split at he
      · rename_i hq
        simp only [Option.some.injEq] at he
        subst he
        subst hq
        refine .inr ⟨i, v, rfl, tab_mono hp, ?_⟩
        rw [tabOf_snoc, hno]; simp
      · cases he
section
variable {A : Cx}
/-- a state of which the links are good, and lists of places in it -/
structure LG (A : Cx) (x : GS) : Prop where
  lk : Lk x.1.tb
  set : SetOk A x.1
  mem : ∀ l ∈ x.2, InT x.1.tb l
theorem stepR_lk (hA : A.Ok) {i : Nat} (hi : i ∈ A.dr) {x : AS × List Pl} {p : Pl} (hs : SetOk A x.1) (hl : Lk x.1.tb) (hm : InT x.1.tb x.2) (hp : ∃ v, tabOf x.1.tb p = some v) : Lk (stepR A i x p).1.tb ∧ InT (stepR A i x p).1.tb (stepR A i x p).2 ∧ (∀ q v, tabOf x.1.tb q = some v → tabOf (stepR A i x p).1.tb q = some v) := by
  unfold stepR
  cases ht : A.tgt i p with
  | none => exact ⟨hl, hm, fun _ _ h => h⟩
  | some q =>
    simp only
    split
    · exact ⟨hl, hm, fun _ _ h => h⟩
    · rename_i hno
      have hk := Cx.tgt_key hA hi ht
      have hn : tabOf x.1.tb q = none := by
        cases h9 : tabOf x.1.tb q with
        | none => rfl
        | some v => exact absurd ((hs.has q hk.2.2.1).2 ⟨v, h9⟩) hno
      obtain ⟨v, hv⟩ := hp
      have he : enOf x.1.tb q i p = ⟨q, i, p, v.1, v.2 ++ [i]⟩ := by unfold enOf; rw [hv]
      rw [he]
      refine ⟨.step _ _ _ _ _ hl hn hv, fun p' hp' => ?_, fun _ _ h => tab_mono h⟩
      rcases List.mem_append.1 hp' with h | h
      · exact hm.mono p' h
      · rw [List.mem_singleton.1 h]
        exact ⟨(v.1, v.2 ++ [i]), by rw [tabOf_snoc, hn]; simp⟩
theorem reach_lk (hA : A.Ok) {i : Nat} (hi : i ∈ A.dr) : ∀ (l : List Pl) (x : AS × List Pl), SetOk A x.1 → Lk x.1.tb → InT x.1.tb x.2 → InT x.1.tb l → Lk (l.foldl (stepR A i) x).1.tb ∧ InT (l.foldl (stepR A i) x).1.tb (l.foldl (stepR A i) x).2 ∧ (∀ q v, tabOf x.1.tb q = some v → tabOf (l.foldl (stepR A i) x).1.tb q = some v)
  | [], x, _, h2, h3, _ => ⟨h2, h3, fun _ _ h => h⟩
  | p :: l, x, h1, h2, h3, h4 => by
    obtain ⟨a, b, c⟩ := stepR_lk hA hi h1 h2 h3 (h4 p List.mem_cons_self)
    obtain ⟨a', b', c'⟩ := reach_lk hA hi l (stepR A i x p) (stepR_set hA hi h1) a b (fun q hq => by
      obtain ⟨v, hv⟩ := h4 q (List.mem_cons_of_mem _ hq)
      exact ⟨v, c q v hv⟩)
    exact ⟨a', b', fun q v h => c' q v (c q v h)⟩
theorem LG.reach (hA : A.Ok) {i : Nat} (hi : i ∈ A.dr) {x : GS} (h : LG A x) {l : List Pl} (hl : InT x.1.tb l) : LG A ((reachP A i l x.1).1, x.2 ++ [(reachP A i l x.1).2]) ∧ ∀ q v, tabOf x.1.tb q = some v → tabOf (reachP A i l x.1).1.tb q = some v := by
  obtain ⟨a, b, c⟩ := reach_lk hA hi l (x.1, []) h.set h.lk (by intro p hp; cases hp) hl
  refine ⟨⟨a, reachP_set hA hi h.set, fun l' hl' p hp => ?_⟩, c⟩
  rcases List.mem_append.1 hl' with h' | h'
  · obtain ⟨v, hv⟩ := h.mem l' h' p hp
    exact ⟨v, c p v hv⟩
  · rw [List.mem_singleton.1 h'] at hp
    exact b p hp
theorem stPre_lk (hA : A.Ok) (k : Nat) : ∀ j, j ≤ (A.kd k).length → Lk (stPre A k 0).tb → Lk (stPre A k j).tb
  | 0, _, h => h
  | j + 1, hj, h => by
    obtain ⟨n, hn⟩ := get_some (show j < (A.kd k).length by omega)
    rw [stPre_snoc hn]
    exact .put _ _ (stPre_lk hA k j (by omega) h) (stPre_none hA hn)
theorem stPre_lk0 (hA : A.Ok) : ∀ k, Lk (stPre A k 0).tb
  | 0 => by
    have : (stPre A 0 0).tb = [] := by unfold stPre preL; simp
    rw [this]; exact .nil
  | k + 1 => by
    rw [← stPre_row]
    exact stPre_lk hA k _ (Nat.le_refl _) (stPre_lk0 hA k)
theorem st0_lg (hA : A.Ok) : LG A (st0 A, []) := ⟨by rw [← stPre_end hA]; exact stPre_lk0 hA _, (st0_ok hA).2, by simp⟩
theorem first_lg (hA : A.Ok) : ∀ (dr : List Nat) (x : GS), (∀ i ∈ dr, i ∈ A.dr) → LG A x → (∀ i ∈ dr, InT x.1.tb (A.start i)) → LG A (dr.foldl (firstStep A) x)
  | [], _, _, h, _ => h
  | i :: dr, x, hd, h, hs => by
    obtain ⟨a, c⟩ := h.reach hA (hd i List.mem_cons_self) (hs i List.mem_cons_self)
    refine first_lg hA dr _ (fun j hj => hd j (List.mem_cons_of_mem _ hj)) a fun j hj p hp => ?_
    obtain ⟨v, hv⟩ := hs j (List.mem_cons_of_mem _ hj) p hp
    exact ⟨v, c p v hv⟩
theorem nextC_lg (hA : A.Ok) {l : List Pl} {x : GS} {i : Nat} (hi : i ∈ A.dr) (h : LG A x) (hl : InT x.1.tb l) : LG A (nextC A l x i) ∧ ∀ q v, tabOf x.1.tb q = some v → tabOf (nextC A l x i).1.tb q = some v := by
  unfold nextC
  split
  · exact h.reach hA hi hl
  · exact ⟨h, fun _ _ h => h⟩
theorem nextL_lg (hA : A.Ok) {l : List Pl} : ∀ (dr : List Nat) (x : GS), (∀ i ∈ dr, i ∈ A.dr) → LG A x → InT x.1.tb l → LG A (dr.foldl (nextC A l) x) ∧ ∀ q v, tabOf x.1.tb q = some v → tabOf (dr.foldl (nextC A l) x).1.tb q = some v
  | [], _, _, h, _ => ⟨h, fun _ _ h => h⟩
  | i :: dr, x, hd, h, hl => by
    obtain ⟨a, c⟩ := nextC_lg hA (hd i List.mem_cons_self) h hl
    obtain ⟨a', c'⟩ := nextL_lg hA dr _ (fun j hj => hd j (List.mem_cons_of_mem _ hj)) a (fun p hp => by
      obtain ⟨v, hv⟩ := hl p hp
      exact ⟨v, c p v hv⟩)
    exact ⟨a', fun q v h => c' q v (c q v h)⟩
theorem nextG_lg (hA : A.Ok) : ∀ (ls : List (List Pl)) (x : GS), LG A x → (∀ l ∈ ls, InT x.1.tb l) → LG A (ls.foldl (nextL A) x)
  | [], _, h, _ => h
  | l :: ls, x, h, hl => by
    obtain ⟨a, c⟩ := nextL_lg hA A.dr x (fun _ h => h) h (hl l List.mem_cons_self)
    refine nextG_lg hA ls _ a fun l' hl' p hp => ?_
    obtain ⟨v, hv⟩ := hl l' (List.mem_cons_of_mem _ hl') p hp
    exact ⟨v, c p v hv⟩
theorem lev_lg (hA : A.Ok) (hstart : ∀ i ∈ A.dr, InT (st0 A).tb (A.start i)) : ∀ n, LG A (lev A n)
  | 0 => first_lg hA A.dr _ (fun _ h => h) (st0_lg hA) hstart
  | n + 1 => by
    have h := lev_lg hA hstart n
    have h2 := nextG_lg hA (lev A n).2 ((lev A n).1, []) ⟨h.lk, h.set, by simp⟩ h.mem
    exact ⟨h2.lk, h2.set, fun l hl => h2.mem l (List.mem_filter.1 hl).1⟩
end
end Go.Sn
namespace Go.Sn
open Go.Gv
open Go.RowKit
/-! ## A list turned about, pair by pair -/
structure Turned (xs ys : List Nat) (i : Nat) : Prop where
  len : ys.length = xs.length
  at_ : ∀ k, k < xs.length → ys[k]? = if k < i ∨ xs.length - i ≤ k then xs[xs.length - 1 - k]? else xs[k]?
theorem Turned.init (xs : List Nat) : Turned xs xs 0 := ⟨rfl, fun k hk => by rw [if_neg (by omega)]⟩
theorem Turned.step {xs ys : List Nat} {i : Nat} (h : Turned xs ys i) {u v : Nat} (hi : 2 * i + 1 < xs.length) (hu : ys[xs.length - 1 - i]? = some u) (hv : ys[i]? = some v) : Turned xs ((ys.set i u).set (xs.length - 1 - i) v) (i + 1) := by
  refine ⟨by rw [List.length_set, List.length_set, h.len], fun k hk => ?_⟩
  have h1 := h.at_ i (by omega)
  rw [if_neg (by omega), hv] at h1
  have h2 := h.at_ (xs.length - 1 - i) (by omega)
  rw [if_neg (by omega), hu] at h2
  rw [List.getElem?_set, List.length_set, h.len]
  by_cases e1 : xs.length - 1 - i = k
  · rw [if_pos e1, if_pos (by omega), if_pos (by omega), h1]; congr 1; omega
  · rw [if_neg e1, List.getElem?_set, h.len]
    by_cases e2 : i = k
    · rw [if_pos e2, if_pos (by omega), if_pos (by omega), h2]; congr 1; omega
    · rw [if_neg e2, h.at_ k hk]
      by_cases e3 : k < i ∨ xs.length - i ≤ k
      · rw [if_pos e3, if_pos (by omega)]
      · rw [if_neg e3, if_neg (by omega)]
theorem Turned.done {xs ys : List Nat} {i : Nat} (h : Turned xs ys i) (hi : xs.length ≤ 2 * i + 1) : ys = xs.reverse := by
  apply List.ext_getElem?
  intro k
  rcases Nat.lt_or_ge k xs.length with hk | hk
  · rw [h.at_ k hk, List.getElem?_reverse hk]
    split
    · rfl
    · congr 1; omega
  · rw [List.getElem?_eq_none (by rw [h.len]; exact hk), List.getElem?_eq_none (by rw [List.length_reverse]; exact hk)]
theorem rd_indexS1 {dm : List Deferred} {P : Program} {n : Nat} {en : Env} {w0 : World} {S : List Nat} {l : List HL} {dst : Option Tmp} {ty : TypeId} {pos : String} {aft : Array Edge} {gd : Option (Nat × Bool)} {t E : TypeId} {z : Value} {bytes : Nat} {x y : Operand} {g m cap : Nat} {k : IntKind} {i : Nat} (hu : P.underlying t = some (.slice E)) (ht : TyF P E z 1 bytes) (hx : en.ev x = some (.slice (rowA (some g)) m cap)) (hy : en.ev y = some (.int k (i : Int))) (h1 : i < m) :
    Rd P dm n en w0 S l ⟨dst, .indexAddr t x y, ty, pos, aft, gd⟩ (.pointer (some ⟨(some g).getD 0, i, none⟩)) := by
  have h := rd_indexS (dm := dm) (n := n) (w0 := w0) (S := S) (l := l) (dst := dst) (ty := ty) (pos := pos) (aft := aft) (gd := gd) hu ht hx hy (by omega) (by omega)
  rwa [Int.toNat_natCast, Nat.mul_one] at h
/-! ## Following the links back -/
theorem start_in {A : Cx} (hA : A.Ok) : ∀ i ∈ A.dr, InT (st0 A).tb (A.start i) := fun i _ p hp =>
  (st0_ok hA).1.all _ _ _ (.played (Cx.start_mem hp).2) (Nat.zero_le _)
theorem act_lk {A : Cx} (hA : A.Ok) : Lk (actP A).tb := (lev_lg hA (start_in hA) _).lk
/-- the walk from q0: the couplers so far, from the last one on -/
structure Back (tb : List En) (q0 : Pl) (p : Pl) (cs : List Nat) : Prop where
  at_ : ∃ v v0, tabOf tb p = some v ∧ tabOf tb q0 = some v0 ∧ v.1 = v0.1 ∧ v0.2 = v.2 ++ cs.reverse
theorem Back.init {tb : List En} {q0 : Pl} {v0 : Pl × List Nat} (h : tabOf tb q0 = some v0) : Back tb q0 q0 [] := ⟨v0, v0, h, h, rfl, by simp⟩
theorem Back.step {tb : List En} {q0 p : Pl} {cs : List Nat} (h : Back tb q0 p cs) (hl : Lk tb) {e : En} (he : findEn tb p = some e) (h0 : 0 ≤ e.i) : Back tb q0 e.p (cs ++ [e.i.toNat]) := by
  obtain ⟨v, v0, h1, h2, h3, h4⟩ := h.at_
  rcases hl.get he with ⟨a, _⟩ | ⟨i, v', a, b, c⟩
  · omega
  · rw [h1] at c
    simp only [Option.some.injEq] at c
    subst c
    refine ⟨v', v0, b, h2, h3, ?_⟩
    rw [h4, a]
    simp
theorem Back.done {tb : List En} {q0 p : Pl} {cs : List Nat} (h : Back tb q0 p cs) (hl : Lk tb) {e : En} (he : findEn tb p = some e) (h0 : e.i < 0) : tabOf tb q0 = some (p, cs.reverse) := by
  obtain ⟨v, v0, h1, h2, h3, h4⟩ := h.at_
  rcases hl.get he with ⟨_, b⟩ | ⟨i, v', a, b, c⟩
  · rw [h1] at b
    simp only [Option.some.injEq] at b
    subst b
    rw [h2]
    congr 1
    exact Prod.ext h3.symm (by rw [h4]; rfl)
  · omega
theorem Back.find {tb : List En} {q0 p : Pl} {cs : List Nat} (h : Back tb q0 p cs) : ∃ e, findEn tb p = some e := by
  obtain ⟨v, v0, h1, _⟩ := h.at_
  rw [tabOf_find] at h1
  cases hf : findEn tb p with
  | none => rw [hf] at h1; cases h1
  | some e => exact ⟨e, rfl⟩
theorem Back.len {tb : List En} {q0 p : Pl} {cs : List Nat} (h : Back tb q0 p cs) {v0 : Pl × List Nat} (h0 : tabOf tb q0 = some v0) : cs.length ≤ v0.2.length := by
  obtain ⟨v, v1, h1, h2, h3, h4⟩ := h.at_
  rw [h0] at h2
  simp only [Option.some.injEq] at h2
  subst h2
  rw [h4]; simp
end Go.Sn
namespace Go.Sn
open Go.Gv
open Go.RowKit
/-- a reason -/
structure Rsn where
  d0 : Nat
  k0 : Nat
  ch : List Nat
  d : Nat
  n : Nat
  i : Nat
  deriving DecidableEq
def Rsn.cells (u : Rsn) (a : Option Addr) (c : Nat) : List Value := [natV u.d0, natV u.k0, .slice a u.ch.length c, natV u.d, natV u.n, natV u.i]
abbrev Rsn.val (u : Rsn) (a : Option Addr) (c : Nat) : Value := .agg #[natV u.d0, natV u.k0, .slice a u.ch.length c, natV u.d, natV u.n, natV u.i]
theorem castL_inj {xs ys : List Nat} : (xs.map fun n : Nat => (n : Int)) = (ys.map fun n : Nat => (n : Int)) ↔ xs = ys := by
  constructor
  · intro h
    have := congrArg (List.map Int.toNat) h
    simpa [List.map_map, Function.comp_def] using this
  · rintro rfl; rfl
def flutesP (l : List Nat) : List Pl := l.map fun n => (0, n)
end Go.Sn
namespace Go.Sn
open Go.Gv
open Go.RowKit
/-! ## Why a pipe sounds: the program's choice -/
def candW (T : Tab) (i0 d n : Nat) : Rsn := ⟨((T (d, n)).getD ((0, 0), [])).1.1, ((T (d, n)).getD ((0, 0), [])).1.2, ((T (d, n)).getD ((0, 0), [])).2, d, n, i0⟩
def stepW (T : Tab) (i0 : Nat) (x : St) (r0 p0 : Int) (b : Option Rsn) (n : Nat) : Option Rsn :=
  if playsZ x n r0 p0 then (match b with
    | none => some (candW T i0 x.div.toNat n)
    | some u => if (candW T i0 x.div.toNat n).ch.length < u.ch.length then some (candW T i0 x.div.toNat n) else some u)
  else b
def stopW (s : Org) (T : Tab) (KS : List (List Nat)) (r0 p0 : Int) (b : Option Rsn) (i0 : Nat) : Option Rsn := (KS.getD (stA s i0).div.toNat []).foldl (stepW T i0 (stA s i0) r0 p0) b
def bestR (b : Option Rsn) : Rsn := b.getD ⟨0, 0, [], 0, 0, 0⟩
def whyK (s : Org) (h : HN) (r0 p0 : Int) (k : Nat) : Option Rsn := (h.ss.take k).foldl (stopW s (tabOf (actP (cxN s h)).tb) (keysP s h) r0 p0) none
def whyI (s : Org) (h : HN) (r0 p0 : Int) (b : Option Rsn) (i0 : Nat) (x : St) (ks : List Nat) (i : Nat) : Option Rsn := (ks.take i).foldl (stepW (tabOf (actP (cxN s h)).tb) i0 x r0 p0) b
section
variable {s : Org} {h : HN} {r0 p0 : Int} {b : Option Rsn} {i0 : Nat} {x : St} {ks : List Nat} {i n : Nat}
theorem whyI_zero : whyI s h r0 p0 b i0 x ks 0 = b := by unfold whyI; rw [List.take_zero]; rfl
theorem whyI_snoc (hn : ks[i]? = some n) : whyI s h r0 p0 b i0 x ks (i + 1) = stepW (tabOf (actP (cxN s h)).tb) i0 x r0 p0 (whyI s h r0 p0 b i0 x ks i) n := by
  unfold whyI; rw [fold_take _ _ hn]
theorem whyK_next {k : Nat} (hi : h.ss[k]? = some i0) (hx : s.ss[i0]? = some x) (hk : (keysP s h).getD x.div.toNat [] = ks) : whyI s h r0 p0 (whyK s h r0 p0 k) i0 x ks ks.length = whyK s h r0 p0 (k + 1) := by
  have hs : stA s i0 = x := getD_some hx
  unfold whyK
  rw [fold_take _ _ hi]
  unfold whyI stopW
  rw [hs, hk, List.take_length]
theorem stepW_no {T : Tab} (hp : playsZ x n r0 p0 = false) : stepW T i0 x r0 p0 b n = b := by unfold stepW; rw [hp]; rfl
theorem stepW_yes {T : Tab} {v : Pl × List Nat} (hp : playsZ x n r0 p0 = true) (hv : T (x.div.toNat, n) = some v) (hb : b = none ∨ v.2.length < (bestR b).ch.length) : stepW T i0 x r0 p0 b n = some ⟨v.1.1, v.1.2, v.2, x.div.toNat, n, i0⟩ := by
  unfold stepW candW
  rw [hp, hv, if_pos rfl]
  cases b with
  | none => rfl
  | some u =>
    rcases hb with hb | hb
    · cases hb
    · exact if_pos hb
theorem stepW_old {T : Tab} {v : Pl × List Nat} {u : Rsn} (hp : playsZ x n r0 p0 = true) (hv : T (x.div.toNat, n) = some v) (hb : ¬ v.2.length < u.ch.length) : stepW T i0 x r0 p0 (some u) n = some u := by
  unfold stepW candW
  rw [hp, hv, if_pos rfl]
  simp only [Option.getD_some]
  rw [if_neg hb]
end
theorem blkSl {w0 w : World} {S : List Nat} {l : List HL} (ho : Own w0 S w l) (i : Nat) {b m : Nat} {cs : List Value} {t : TypeId} (hi : l[i]? = some (.blk b cs t)) (hm : cs.length = m) : OldSl w [] (some ⟨b, 0, none⟩) m 1 cs := ⟨by omega, fun _ => rfl, ho.blkCells i hi, fun _ h => by cases h⟩
/-- the answer of Why: zr is the value of no reason -/
def WhyR (ti tr : TypeId) (s : Org) (h : Hd) (r0 p0 : Int) (v : Value) (L : List HL) : Prop :=
  ∃ b6 : Nat, (handErr s h ≠ 0 ∧ v = .tuple #[(bestR none).val none 0, .int .i64 (handErr s h)] ∧ L = [.blk b6 ((bestR none).cells none 0) tr]) ∨
  (handErr s h = 0 ∧ ∃ n : HN, h = n.hd ∧ HGood s n ∧
    ((whyK s n r0 p0 n.ss.length = none ∧ v = .tuple #[(bestR none).val none 0, .int .i64 4] ∧ L = [.blk b6 ((bestR none).cells none 0) tr]) ∨
     ∃ (u : Rsn) (r : Option Nat) (c : Nat), whyK s n r0 p0 n.ss.length = some u ∧ v = .tuple #[u.val (rowA r) c, .int .i64 0] ∧ L = [.blk b6 (u.cells (rowA r) c) tr, .row ti 1 r u.ch.length c (u.ch.map natV)]))
end Go.Sn
namespace Go.Sn
open Go.Gv
open Go.RowKit
/-! ## The document's specification -/
def exDs : List Dv := [⟨⟨#[103, 114, 101, 97, 116]⟩, 36, 60⟩]
def exRs : List Rk := [⟨⟨#[102, 108, 117, 116, 101]⟩, 2, 8, 1, 36, 37⟩, ⟨⟨#[114, 101, 101, 100]⟩, 4, 8, 1, 36, 13⟩]
def exP1 : List Pt := [⟨0, 0, 36, 60⟩]
def exP2 : List Pt := [⟨0, 12, 36, 60⟩]
def exP3 : List Pt := [⟨1, 0, 36, 48⟩]
def exC1 : List Cp := [⟨⟨#[111, 99, 116, 97, 118, 101]⟩, 0, 0, 12, 0, false⟩]
def exSs (p1 p2 p3 : Nat) : List St := [⟨⟨#[102, 108, 117, 116, 101, 56]⟩, 0, 8, 1, some ⟨p1, 0, none⟩, 1, exP1⟩, ⟨⟨#[102, 108, 117, 116, 101, 52]⟩, 0, 4, 1, some ⟨p2, 0, none⟩, 1, exP2⟩, ⟨⟨#[98, 97, 115, 115]⟩, 0, 8, 1, some ⟨p3, 0, none⟩, 1, exP3⟩]
def ex10 (d r p1 p2 p3 t c : Nat) : Org := ⟨some ⟨d, 0, none⟩, 1, exDs, some ⟨r, 0, none⟩, 2, exRs, some ⟨t, 0, none⟩, 3, exSs p1 p2 p3, some ⟨c, 0, none⟩, 1, exC1⟩
def exC4 : List Cp := exC1 ++ [⟨⟨#[100, 111, 119, 110]⟩, 0, 0, -12, 0, false⟩, ⟨⟨#[104, 105, 103, 104]⟩, 0, 0, 12, 2, false⟩, ⟨⟨#[102, 97, 114]⟩, 0, 0, 12, 0, true⟩]
def ex12 (d r p1 p2 p3 t : Nat) (ca : Option Nat) (cc : Nat) : Org := ⟨some ⟨d, 0, none⟩, 1, exDs, some ⟨r, 0, none⟩, 2, exRs, some ⟨t, 0, none⟩, 3, exSs p1 p2 p3, rowA ca, cc, exC4⟩
end Go.Sn
namespace Go.Sn
open Go.Gv
open Go.RowKit
/-! ## The document's example, computed -/
def exHN (ka k0 sa ca : Option Addr) : HN := ⟨ka, 1, [⟨k0, 1, [36]⟩], sa, 2, [0, 1], ca, 2, [0, 3]⟩
section
variable (d r p1 p2 p3 t : Nat) (c : Option Nat) (cc : Nat) (ka k0 sa ca : Option Addr)
set_option maxRecDepth 100000 in
theorem ex_err : handErr (ex12 d r p1 p2 p3 t c cc) (exHN ka k0 sa ca).hd = 0 := by kernel_rfl
def exA : Cx := ⟨exDs, exC4, [[36]], [0, 3]⟩
theorem ex_cx : cxN (ex12 d r p1 p2 p3 t c cc) (exHN ka k0 sa ca) = exA := rfl
end
set_option maxRecDepth 100000 in
theorem ex_lev : (lev exA 3).2 = [] := by decide +kernel
section
variable {d r p1 p2 p3 t : Nat} {c : Option Nat} {cc : Nat} {ka k0 sa ca : Option Addr}
theorem ex_act (hg : HGood (ex12 d r p1 p2 p3 t c cc) (exHN ka k0 sa ca)) : actP (cxN (ex12 d r p1 p2 p3 t c cc) (exHN ka k0 sa ca)) = (lev exA 3).1 := by
  have h := hg.cx
  rw [ex_cx] at h ⊢
  exact (lev_act h (n := 3) (by unfold fuelA; omega) ex_lev).symm
set_option maxRecDepth 100000 in
theorem ex_keysT : keysT (tabOf (lev exA 3).1.tb) 1 = [[36, 48, 60]] := by decide +kernel
theorem ex_keys (hg : HGood (ex12 d r p1 p2 p3 t c cc) (exHN ka k0 sa ca)) : keysP (ex12 d r p1 p2 p3 t c cc) (exHN ka k0 sa ca) = [[36, 48, 60]] := by
  unfold keysP
  rw [ex_act hg]
  exact ex_keysT
set_option maxRecDepth 100000 in
theorem ex_sound0 : pipesP 2 (cntS (ex12 d r p1 p2 p3 t c cc) [[36, 48, 60]] [0, 1]) = flutesP [36, 48, 60, 72] := by kernel_rfl
theorem ex_sound (hg : HGood (ex12 d r p1 p2 p3 t c cc) (exHN ka k0 sa ca)) : soundP (ex12 d r p1 p2 p3 t c cc) (exHN ka k0 sa ca) = flutesP [36, 48, 60, 72] := by
  unfold soundP
  have h : cntP (ex12 d r p1 p2 p3 t c cc) (exHN ka k0 sa ca) (exHN ka k0 sa ca).ss.length = cntS (ex12 d r p1 p2 p3 t c cc) [[36, 48, 60]] [0, 1] := by
    unfold cntP; rw [ex_keys hg]; rfl
  rw [h]
  exact ex_sound0
set_option maxRecDepth 100000 in
theorem ex_why (hg : HGood (ex12 d r p1 p2 p3 t c cc) (exHN ka k0 sa ca)) : whyK (ex12 d r p1 p2 p3 t c cc) (exHN ka k0 sa ca) 0 72 (exHN ka k0 sa ca).ss.length = some ⟨0, 36, [0, 3], 0, 60, 1⟩ := by
  unfold whyK
  rw [ex_act hg, ex_keys hg]
  kernel_rfl
end
/-- hands in natural numbers are known by their integers -/
theorem castN_inj {xs ys : List Nat} (h : (xs.map fun n : Nat => (n : Int)) = ys.map fun n : Nat => (n : Int)) : xs = ys := castL_inj.1 h
theorem hd_inj {a b : HN} (h : a.hd = b.hd) : a = b := by
  obtain ⟨a1, a2, a3, a4, a5, a6, a7, a8, a9⟩ := a
  obtain ⟨b1, b2, b3, b4, b5, b6, b7, b8, b9⟩ := b
  unfold HN.hd at h
  simp only [Hd.mk.injEq] at h
  obtain ⟨h1, h2, h3, h4, h5, h6, h7, h8, h9⟩ := h
  have e3 : a3 = b3 := by
    have key : ∀ (l l' : List KN), l.map KN.kr = l'.map KN.kr → l = l' := by
      intro l
      induction l with
      | nil => intro l' h; cases l' with
        | nil => rfl
        | cons => simp at h
      | cons x l ih => intro l' h; cases l' with
        | nil => simp at h
        | cons y l' =>
          simp only [List.map_cons, List.cons.injEq] at h
          obtain ⟨x1, x2, x3⟩ := x
          obtain ⟨y1, y2, y3⟩ := y
          unfold KN.kr at h
          simp only [KR.mk.injEq] at h
          rw [ih l' h.2, h.1.1, h.1.2.1, castN_inj h.1.2.2]
    exact key _ _ h3
  subst h1 h2 e3 h4 h5 h7 h8
  rw [castN_inj h6, castN_inj h9]
end Go.Sn
namespace Go.Sn
open Go.Gv
open Go.RowKit
/-! ## What the answers say of the document's example -/
section
variable {d r p1 p2 p3 t : Nat} {c : Option Nat} {cc : Nat} {ka k0 sa ca : Option Addr} {ti ts tp tr : TypeId} {v : Value} {L : List HL}
theorem ex_KeysR (h : KeysR ti ts (ex12 d r p1 p2 p3 t c cc) (exHN ka k0 sa ca).hd v L) : ∃ (r8 : Nat) (g : KG), g.ks = [36, 48, 60] ∧ v = .tuple #[.slice (rowA (some r8)) 1 1, .int .i64 0] ∧ L = [.row ts 1 (some r8) 1 1 [g.cell], g.hl ti] := by
  rcases h with ⟨h, _⟩ | ⟨_, n, r8, G, hn, hg, hG, hv, hL⟩
  · exact absurd (ex_err _ _ _ _ _ _ _ _ _ _ _ _) h
  · have e := hd_inj hn
    subst e
    rw [ex_keys hg] at hG
    cases G with
    | nil => cases hG
    | cons g G =>
      simp only [List.map_cons, List.cons.injEq, List.map_eq_nil_iff] at hG
      obtain ⟨h1, rfl⟩ := hG
      exact ⟨r8, g, h1, hv, hL⟩
theorem ex_PipesR (h : PipesR tp (ex12 d r p1 p2 p3 t c cc) (exHN ka k0 sa ca).hd v L) : ∃ (r8 : Option Nat) (c8 : Nat), v = .tuple #[.slice (rowA r8) 4 c8, .int .i64 0] ∧ L = [.row tp 2 r8 4 c8 ((flutesP [36, 48, 60, 72]).flatMap plC)] := by
  rcases h with ⟨h, _⟩ | ⟨_, n, r8, c8, hn, hg, hv, hL⟩
  · exact absurd (ex_err _ _ _ _ _ _ _ _ _ _ _ _) h
  · have e := hd_inj hn
    subst e
    rw [ex_sound hg] at hv hL
    exact ⟨r8, c8, hv, hL⟩
theorem ex_WhyR (h : WhyR ti tr (ex12 d r p1 p2 p3 t c cc) (exHN ka k0 sa ca).hd 0 72 v L) : ∃ (b6 : Nat) (r8 : Option Nat) (c8 : Nat), v = .tuple #[(⟨0, 36, [0, 3], 0, 60, 1⟩ : Rsn).val (rowA r8) c8, .int .i64 0] ∧ L = [.blk b6 ((⟨0, 36, [0, 3], 0, 60, 1⟩ : Rsn).cells (rowA r8) c8) tr, .row ti 1 r8 2 c8 [natV 0, natV 3]] := by
  obtain ⟨b6, h⟩ := h
  rcases h with ⟨h, _⟩ | ⟨_, n, hn, hg, h⟩
  · exact absurd (ex_err _ _ _ _ _ _ _ _ _ _ _ _) h
  · have e := hd_inj hn
    subst e
    rcases h with ⟨h, _⟩ | ⟨u, r8, c8, hu, hv, hL⟩
    · rw [ex_why hg] at h; cases h
    · rw [ex_why hg] at hu
      simp only [Option.some.injEq] at hu
      subst hu
      exact ⟨b6, r8, c8, hv, hL⟩
theorem all_le {α : Type} {f : α → Nat} {l : List α} {m : Nat} (hm : m ≤ 140737488355328) (h : (l.all fun x => Nat.ble (f x) m) = true) : ∀ x ∈ l, f x ≤ 140737488355328 := fun x hx => Nat.le_trans (Nat.le_of_ble_eq_true (List.all_eq_true.1 h x hx)) hm
theorem ex_le : OrgLe (ex12 d r p1 p2 p3 t c cc) := by
  refine ⟨by show 1 ≤ 140737488355328; omega, by show 2 ≤ 140737488355328; omega, by show 3 ≤ 140737488355328; omega, by show 4 ≤ 140737488355328; omega, all_le (m := 16) (by omega) (by kernel_rfl), fun x hx => ?_, all_le (m := 16) (by omega) (by kernel_rfl), all_le (m := 16) (by omega) (by kernel_rfl), all_le (m := 16) (by omega) (by kernel_rfl), all_le (m := 16) (by omega) (by kernel_rfl)⟩
  have h : ((ex12 d r p1 p2 p3 t c cc).ss.all fun x => Nat.ble x.ps.length x.pc) = true := by kernel_rfl
  exact Nat.le_of_ble_eq_true (List.all_eq_true.1 h x hx)
theorem ex_hle : HdLe (exHN ka k0 sa ca).hd := by
  constructor <;> simp [exHN, HN.hd, KN.kr]
theorem ex_in {w : World} {S : List Nat} (hd : OldSl w S (rowA (some d)) 1 3 (exDs.flatMap Dv.cells)) (hr : OldSl w S (rowA (some r)) 2 6 (exRs.flatMap Rk.cells)) (ht : OldSl w S (rowA (some t)) 3 5 ((exSs p1 p2 p3).flatMap St.cells)) (hc : OldSl w S (rowA c) 4 6 (exC4.flatMap Cp.cells)) (h1 : OldSl w S (rowA (some p1)) 1 4 (exP1.flatMap Pt.cells)) (h2 : OldSl w S (rowA (some p2)) 1 4 (exP2.flatMap Pt.cells)) (h3 : OldSl w S (rowA (some p3)) 1 4 (exP3.flatMap Pt.cells)) : OrgIn (ex12 d r p1 p2 p3 t c cc) w S := by
  refine ⟨hd, hr, ht, hc, fun x hx => ?_⟩
  change x ∈ exSs p1 p2 p3 at hx
  unfold exSs at hx
  rcases List.mem_cons.1 hx with rfl | hx
  · exact h1
  rcases List.mem_cons.1 hx with rfl | hx
  · exact h2
  rcases List.mem_cons.1 hx with rfl | hx
  · exact h3
  · cases hx
theorem exh_in {w : World} {S : List Nat} {bk b0 bs bc : Nat} (hk : OldSl w S (rowA (some bk)) 1 1 [.slice (rowA (some b0)) 1 1]) (h0 : OldSl w S (rowA (some b0)) 1 1 [natV 36]) (hs : OldSl w S (rowA (some bs)) 2 1 [natV 0, natV 1]) (hc : OldSl w S (rowA (some bc)) 2 1 [natV 0, natV 3]) : HdIn (exHN (rowA (some bk)) (rowA (some b0)) (rowA (some bs)) (rowA (some bc))).hd w S := by
  refine ⟨hk, fun x hx => ?_, hs, hc⟩
  change x ∈ [(⟨rowA (some b0), 1, [36]⟩ : KR)] at hx
  rw [List.mem_singleton.1 hx]
  exact h0
end
end Go.Sn
namespace Go.Sn
open Go.Gv
open Go.RowKit Go.Deep Go.ChangeShapes Go.WideShapes
section
variable {P : Program} {H : Type} {enc : TypeId × Value → H} {W : World} {base : Nat} {sp : Nat → Bool} {held : Bool}
theorem cells_at {a : Addr} {n : Nat} {cs : List Value} (h : W.cells? base a n = some cs) : cs.length = n ∧ ∀ i v, cs[i]? = some v → W.cell? (a.add i) = some v := by
  obtain ⟨_, h1, h2⟩ := World.cells?_some h
  refine ⟨h1, fun i v hv => ?_⟩
  have hi := (List.getElem?_eq_some_iff.1 hv).1
  rw [h2 i (by omega)]; exact hv
theorem len5 {cs : List Value} (h : cs.length = 5) : ∃ u v q r s, cs = [u, v, q, r, s] := by
  match cs, h with
  | [u, v, q, r, s], _ => exact ⟨u, v, q, r, s, rfl⟩
theorem weightsAll_mem {e : TypeId} : ∀ {l : List (DataW H)} {d : DataW H}, d ∈ l → ∀ b ∈ d.weights P e, b ∈ DataW.weightsAll P e l
  | y :: l, d, hd, b, hb => by
    rw [DataW.weightsAll]
    rcases List.mem_cons.1 hd with rfl | hd
    · exact List.mem_append_left _ hb
    · exact List.mem_append_right _ (weightsAll_mem hd b hb)
  | [], d, hd, _, _ => by cases hd
/-- a slice of structs, each with what it points to -/
theorem openSlW {α : Type} [Inhabited α] (f : α → List Value) (G : α → Prop) (sz T E bb : Nat) (hf : ∀ x, (f x).length = sz) (hsz : 0 < sz) (hu : P.underlying T = some (.slice E)) (hc : P.cellsOf E = sz) (hB : P.bytesOf E = bb) (hbb : 8 ≤ bb) (hel : ∀ (n : Nat) (cs : List Value) (x : DataW H × List MemPlace), DataW.trod enc P W base sp held n E cs = some x → (∀ b ∈ x.1.weights P E, b ≤ reachBytes) → ∃ g : α, cs = f g ∧ G g) {n : Nat} {cs : List Value} {x : DataW H × List MemPlace} (h : DataW.trod enc P W base sp held n T cs = some x) (hw : ∀ b ∈ x.1.weights P T, b ≤ reachBytes) :
    ∃ (a : Option Addr) (gs : List α) (cp : Nat), cs = [.slice a gs.length cp] ∧ OldSl W [] a gs.length sz (gs.flatMap f) ∧ gs.length ≤ 140737488355328 ∧ gs.length ≤ cp ∧ ∀ g ∈ gs, G g := by
  rcases open_slice hu h with ⟨rfl, rfl⟩ | ⟨a, len, cap, m, k, D, Pl, rfl, hb, hl, hm, hmm, rfl, hx⟩
  · exact ⟨none, [], 0, rfl, ⟨by simp, fun h => absurd h (Nat.lt_irrefl 0), fun j v hv => by simp at hv, fun h => absurd h (Nat.lt_irrefl 0)⟩, Nat.zero_le _, Nat.zero_le _, by simp⟩
  · have hml : len ≤ m := by rw [hmm]; split <;> omega
    rw [hc] at hx
    have hwt : ∀ b ∈ DataW.weights P T (.slice ((List.range len).map D) ((List.range (m - len)).map fun j => D (len + j))), b ≤ reachBytes := hw
    rw [DataW.weights] at hwt
    simp only [hu] at hwt
    have hwD : ∀ i, i < len → ∀ b ∈ (D i).weights P E, b ≤ reachBytes := fun i hi b hb =>
      hwt b (List.mem_cons_of_mem _ (List.mem_append_left _ (weightsAll_mem (List.mem_map.2 ⟨i, List.mem_range.2 hi, rfl⟩) b hb)))
    have hone : ∀ i, i < len → ∃ g : α, (∀ j v, (f g)[j]? = some v → W.cell? ((a.add (i * sz)).add j) = some v) ∧ G g := fun i hi => by
      obtain ⟨cs', h1, h2⟩ := hx i (by omega)
      obtain ⟨g, rfl, h3⟩ := hel _ _ _ h2 (hwD i hi)
      exact ⟨g, (cells_at h1).2, h3⟩
    obtain ⟨g, hg⟩ := choose_lt (α := α) (p := fun i g => (∀ j v, (f g)[j]? = some v → W.cell? ((a.add (i * sz)).add j) = some v) ∧ G g) hone
    refine ⟨some a, (List.range len).map g, cap, by simp, ⟨by rw [flat_len f sz hf], fun _ => rfl, fun j v hv => ?_, fun _ => by simp⟩, ?_, by simp only [List.length_map, List.length_range]; omega, fun q hq => ?_⟩
    · have hj : j < ((List.range len).map g).length * sz := by
        have := (List.getElem?_eq_some_iff.1 hv).1
        rwa [flat_len f sz hf] at this
      simp only [List.length_map, List.length_range] at hj
      have hi : j / sz < len := Nat.div_lt_of_lt_mul (by rw [Nat.mul_comm]; exact hj)
      have e : j = j / sz * sz + j % sz := (Nat.div_add_mod' j sz).symm
      have hget : ((List.range len).map g)[j / sz]? = some (g (j / sz)) := by simp [hi]
      have hv2 : (f (g (j / sz)))[j % sz]? = some v := by
        have hlt : j % sz < (f (g (j / sz))).length := by rw [hf]; exact Nat.mod_lt _ hsz
        have h5 := get_flat f sz hf hget (j := j % sz) (Nat.mod_lt _ hsz) (List.getElem?_eq_getElem hlt)
        rw [← e, hv] at h5
        rw [List.getElem?_eq_getElem hlt]
        exact h5.symm
      have := (hg (j / sz) hi).1 (j % sz) v hv2
      rw [Gv.add_add, ← e] at this
      exact this
    · have := hwt _ List.mem_cons_self
      simp only [List.length_map, List.length_range] at this ⊢
      rw [hB] at this
      have := reachBytes_lt
      have h9 : (len + (m - len)) * 8 ≤ (len + (m - len)) * bb := Nat.mul_le_mul_left _ hbb
      omega
    · obtain ⟨i, hi, rfl⟩ := List.mem_map.1 hq
      exact (hg i (List.mem_range.1 hi)).2
end
end Go.Sn
namespace Go.Sn
open Go.Gv
open Go.RowKit Go.Deep Go.ChangeShapes Go.WideShapes
/-! # Fields of a struct, opened one by one -/
def Hd.cells (h : Hd) : List Value := [.slice h.ka h.ks.length h.kc, .slice h.sa h.ss.length h.sc, .slice h.ca h.cs.length h.cc]
section
variable {P : Program} {H : Type} {enc : TypeId × Value → H} {W : World} {base : Nat} {sp : Nat → Bool} {held : Bool}
theorem fld {t : TypeId} {fs : Array Field} {n : Nat} {cs : List Value} {x : DataW H × List MemPlace} (ht : P.underlying t = some (.struct fs)) (h : DataW.trod enc P W base sp held n t cs = some x) (hw : ∀ b ∈ x.1.weights P t, b ≤ reachBytes) :
    ∃ k, cs.length = P.cellsOf t ∧ ∀ (i : Nat) (f : Field) (c : Nat), fs[i]? = some f → P.cellsOf f.type = c → ∃ y, DataW.trod enc P W base sp held k f.type ((cs.drop f.offset).take c) = some y ∧ ∀ b ∈ y.1.weights P f.type, b ≤ reachBytes := by
  obtain ⟨xs, k, _, rfl, hl, hlen, hf⟩ := DataW.trod_struct ht h
  refine ⟨k, hl, fun i f c hi hc => ?_⟩
  have hlt : i < fs.size := (Array.getElem?_eq_some_iff.1 hi).1
  have h1 := hf i f hi
  rw [hc, List.getElem?_eq_getElem (by omega)] at h1
  refine ⟨_, h1, fun b hb => hw b ?_⟩
  show b ∈ DataW.weights P t (.agg _)
  rw [DataW.weights]
  simp only [ht]
  refine DataW.weights_mem_each (j := i) (t := f.type) ?_ ?_ b hb
  · simp [hi]
  · rw [List.getElem?_map, List.getElem?_eq_getElem (by omega)]; rfl
theorem leafI {t : TypeId} {n : Nat} {v : Value} {x : DataW H × List MemPlace} (hu : P.underlying t = some (.int .i64)) (h : DataW.trod enc P W base sp held n t [v] = some x) : ∃ z : Int, v = .int .i64 z := by
  obtain ⟨z, e, _⟩ := DataW.trod_int hu h
  exact ⟨z, by simpa using e⟩
theorem leafB {t : TypeId} {n : Nat} {v : Value} {x : DataW H × List MemPlace} (hu : P.underlying t = some .bool) (h : DataW.trod enc P W base sp held n t [v] = some x) : ∃ z : Bool, v = .bool z := by
  obtain ⟨z, e, _⟩ := DataW.trod_bool hu h
  exact ⟨z, by simpa using e⟩
theorem leafS {t : TypeId} {n : Nat} {v : Value} {x : DataW H × List MemPlace} (hu : P.underlying t = some .string) (h : DataW.trod enc P W base sp held n t [v] = some x) (hw : ∀ b ∈ x.1.weights P t, b ≤ reachBytes) : ∃ z : ByteArray, v = .string z ∧ z.size ≤ 140737488355328 := by
  obtain ⟨z, e, rfl, _⟩ := DataW.trod_string hu h
  refine ⟨z, by simpa using e, ?_⟩
  have := hw z.data.toList.length (by rw [DataW.weights]; exact List.mem_singleton.2 rfl)
  have e2 : z.data.toList.length = z.size := by rw [Array.length_toList]; rfl
  have := reachBytes_lt
  omega
theorem len3 {cs : List Value} (h : cs.length = 3) : ∃ a b c, cs = [a, b, c] := by
  match cs, h with
  | [a, b, c], _ => exact ⟨a, b, c, rfl⟩
theorem len4 {cs : List Value} (h : cs.length = 4) : ∃ a b c d, cs = [a, b, c, d] := by
  match cs, h with
  | [a, b, c, d], _ => exact ⟨a, b, c, d, rfl⟩
theorem len6 {cs : List Value} (h : cs.length = 6) : ∃ a b c d e f, cs = [a, b, c, d, e, f] := by
  match cs, h with
  | [a, b, c, d, e, f], _ => exact ⟨a, b, c, d, e, f, rfl⟩
theorem flat_one {α : Type} (f : α → Value) (l : List α) : l.flatMap (fun x => [f x]) = l.map f := by
  induction l with
  | nil => rfl
  | cons x l ih => rw [List.flatMap_cons, ih]; rfl
end
end Go.Sn
namespace Go.Sn
open Go.Gv
open Go.RowKit
/-- the hand with one stop alone -/
def HN.one (h : HN) (a : Option Addr) (c i : Nat) : HN := { h with sa := a, sc := c, ss := [i] }
theorem HGood.one {s : Org} {h : HN} (hg : HGood s h) (a : Option Addr) (c : Nat) {i : Nat} (hi : i ∈ h.ss) : HGood s (h.one a c i) :=
  ⟨hg.spec, hg.cx, by simp [HN.one], fun j hj => by simp only [HN.one, List.mem_singleton] at hj; subst hj; exact hg.ssN j hi, hg.nr, hg.ns, hg.nc, hg.hk, hg.hc⟩
theorem cntS_pos {s : Org} {KS : List (List Nat)} {q : Pl} : ∀ {l : List Nat}, 0 < cntS s KS l q ↔ ∃ i ∈ l, 0 < cntK (stA s i) (KS.getD (stA s i).div.toNat []) q
  | [] => by simp [cntS]
  | i :: l => by
    have ih := cntS_pos (s := s) (KS := KS) (q := q) (l := l)
    unfold cntS
    constructor
    · intro h
      by_cases h1 : 0 < cntK (stA s i) (KS.getD (stA s i).div.toNat []) q
      · exact ⟨i, List.mem_cons_self, h1⟩
      · obtain ⟨j, h2, h3⟩ := ih.1 (by omega)
        exact ⟨j, List.mem_cons_of_mem _ h2, h3⟩
    · rintro ⟨j, h2, h3⟩
      rcases List.mem_cons.1 h2 with rfl | h2
      · omega
      · have := ih.2 ⟨j, h2, h3⟩; omega
theorem cntK_pos {x : St} {q : Pl} : ∀ {l : List Nat}, 0 < cntK x l q ↔ ∃ n ∈ l, playsB x n q = true
  | [] => by simp [cntK]
  | n :: l => by
    have ih := cntK_pos (x := x) (q := q) (l := l)
    unfold cntK
    constructor
    · intro h
      cases h1 : playsB x n q with
      | true => exact ⟨n, List.mem_cons_self, h1⟩
      | false =>
        rw [h1] at h
        obtain ⟨m, h2, h3⟩ := ih.1 (by simpa using h)
        exact ⟨m, List.mem_cons_of_mem _ h2, h3⟩
    · rintro ⟨m, h2, h3⟩
      rcases List.mem_cons.1 h2 with rfl | h2
      · rw [h3, if_pos rfl]; omega
      · have := ih.2 ⟨m, h2, h3⟩; omega
end Go.Sn
namespace Go.Sn
open Go.Gv
open Go.RowKit
/-- the steps of a chain -/
theorem Path.at {A : Cx} : ∀ (n : Nat) {p q : Pl} {cs : List Nat}, cs.length = n → Path A p cs q → ∀ k, k < n → ∃ (i : Nat) (a b : Pl), cs[k]? = some i ∧ Path A p (cs.take k) a ∧ i ∈ A.dr ∧ A.nx (cs.take k) a i = true ∧ A.tgt i a = some b ∧ Path A p (cs.take (k + 1)) b
  | 0, _, _, _, _, _, k, hk => absurd hk (Nat.not_lt_zero k)
  | n + 1, p, q, cs, hn, h, k, hk => by
    have hne : cs ≠ [] := fun e => by simp [e] at hn
    have e := (List.dropLast_concat_getLast hne).symm
    have hdl : cs.dropLast.length = n := by simp [hn]
    obtain ⟨q1, a1, a2, a3, a4⟩ := h.snoc e
    rcases Nat.lt_or_ge k n with hk2 | hk2
    · obtain ⟨i, a, b, b1, b2, b3, b4, b5, b6⟩ := Path.at n hdl a1 k hk2
      have t1 : cs.take k = cs.dropLast.take k := by rw [e, List.take_append_of_le_length (by omega), ← e]
      have t2 : cs.take (k + 1) = cs.dropLast.take (k + 1) := by rw [e, List.take_append_of_le_length (by omega), ← e]
      refine ⟨i, a, b, ?_, by rw [t1]; exact b2, b3, by rw [t1]; exact b4, b5, by rw [t2]; exact b6⟩
      rw [e, List.getElem?_append_left (by omega)]; exact b1
    · have : k = n := by omega
      subst this
      have t1 : cs.take k = cs.dropLast := by rw [e, List.take_append_of_le_length (by omega), ← e]; exact List.take_of_length_le (by omega)
      refine ⟨cs.getLast hne, q1, q, ?_, by rw [t1]; exact a1, a2, by rw [t1]; exact a3, a4, by rw [List.take_of_length_le (by omega)]; exact h⟩
      have h9 : (cs.dropLast ++ [cs.getLast hne])[k]? = some (cs.getLast hne) := by rw [List.getElem?_append_right (by omega), hdl, Nat.sub_self]; rfl
      rwa [← e] at h9
theorem Path.start {A : Cx} : ∀ (n : Nat) {p q : Pl} {cs : List Nat}, cs.length = n → Path A p cs q → p.2 ∈ A.kd p.1
  | 0, p, q, cs, hn, h => by
    have e : cs = [] := List.length_eq_zero_iff.1 hn
    have := h.nil e
    rw [this.1]; exact this.2
  | n + 1, p, q, cs, hn, h => by
    have hne : cs ≠ [] := fun e => by simp [e] at hn
    obtain ⟨q1, a1, _, _, _⟩ := h.snoc (List.dropLast_concat_getLast hne).symm
    exact Path.start n (by simp [hn]) a1
/-- what a reason must be -/
structure RsnOk (s : Org) (h : HN) (u : Rsn) (r0 p0 : Int) : Prop where
  stop : u.i ∈ h.ss
  div : (stA s u.i).div = u.d
  plays : playsZ (stA s u.i) u.n r0 p0 = true
  path : Path (cxN s h) (u.d0, u.k0) u.ch (u.d, u.n)
  len : u.ch.length ≤ 1000
section
variable {s : Org} {h : HN} {r0 p0 : Int}
end
end Go.Sn
namespace Go.Sn
open Go.Gv
open Go.RowKit
/-! # One more number in a list; what more of everything does -/
def putG : Bool → List Nat → Nat → List Nat
  | d, [], n => if d then [] else [n]
  | d, x :: l, n => if d = false ∧ n < x then n :: x :: putG true l n else x :: putG d l n
def putP (l : List Nat) (n : Nat) : List Nat := putG (decide (n ∈ l)) l n
theorem putG_true (n : Nat) : ∀ l, putG true l n = l
  | [] => rfl
  | x :: l => by unfold putG; rw [if_neg (by simp), putG_true n l]
theorem putG_len {n : Nat} : ∀ (d : Bool) (l : List Nat), (putG d l n).length ≤ l.length + 1
  | true, l => by rw [putG_true]; omega
  | false, [] => by simp [putG]
  | false, x :: l => by
    have := putG_len (n := n) false l
    unfold putG
    split
    · rw [putG_true]; simp
    · simp only [List.length_cons]; omega
theorem putP_len (l : List Nat) (n : Nat) : (putP l n).length ≤ l.length + 1 := putG_len _ _
/-! ## more acts -/
theorem Path.mono {A B : Cx} (hd : A.ds = B.ds) (hc : A.cs = B.cs) (hr : ∀ i ∈ A.dr, i ∈ B.dr) (hk : ∀ d, ∀ k ∈ A.kd d, k ∈ B.kd d) (hs : ∀ i ∈ A.dr, ∀ q ∈ A.start i, q ∈ B.start i) : ∀ {p q : Pl} {cs : List Nat}, Path A p cs q → Path B p cs q := by
  intro p q cs h
  have hcp : ∀ i, A.cp i = B.cp i := fun i => by unfold Cx.cp; rw [hc]
  have hdv : ∀ d, A.dv d = B.dv d := fun d => by unfold Cx.dv; rw [hd]
  induction h with
  | played h => exact .played (hk _ _ h)
  | step h1 h2 h3 h4 ih =>
    refine .step ih (hr _ h2) ?_ ?_
    · unfold Cx.nx at h3 ⊢
      split
      · rename_i e
        rw [if_pos e] at h3
        exact decide_eq_true (hs _ h2 _ (of_decide_eq_true h3))
      · rename_i e
        rw [if_neg e] at h3
        unfold Cx.goes at h3 ⊢
        rw [← hcp]; exact h3
    · unfold Cx.tgt at h4 ⊢
      rw [← hcp, ← hdv]; exact h4
/-- one stop more -/
def HN.stop (h : HN) (a : Option Addr) (c j : Nat) : HN := { h with sa := a, sc := c, ss := putP h.ss j }
def HN.coup (h : HN) (a : Option Addr) (c j : Nat) : HN := { h with ca := a, cc := c, cs := putP h.cs j }
def HN.keyed (h : HN) (a : Option Addr) (c i : Nat) (r : KN) : HN := { h with ka := a, kc := c, ks := h.ks.set i r }
/-- the pipes of one hand that are not of another -/
def diffP (s : Org) (a b : HN) : List Pl := (soundP s a).filter fun q => !decide (q ∈ soundP s b)
end Go.Sn
namespace Go.Sn
open Go.Gv
open Go.RowKit
section
variable {T : Tab} {i0 : Nat} {x : St} {r0 p0 : Int} {b : Option Rsn} {d n : Nat}
theorem rowK_low {lo : Nat} (h : ∀ k, (T (d, k)).isSome = true → lo ≤ k) : rowK T d lo = [] := by
  unfold rowK
  rw [List.filter_eq_nil_iff]
  intro k hk hs
  have := h k hs
  have := List.mem_range.1 hk
  omega
theorem rowK_high {m : Nat} : ∀ (j : Nat), (∀ k, (T (d, k)).isSome = true → k < m) → rowK T d (m + j) = rowK T d m
  | 0, _ => rfl
  | j + 1, h => by
    rw [← Nat.add_assoc, rowK_snoc_f, rowK_high j h]
    cases hs : (T (d, m + j)).isSome with
    | false => rfl
    | true => have := h _ hs; omega
end
end Go.Sn
namespace Go.Sn
open Go.Gv
open Go.RowKit Go.Deep Go.ChangeShapes Go.WideShapes
section
variable {P : Program} {H : Type} {enc : TypeId × Value → H} {W : World} {base : Nat} {sp : Nat → Bool} {held : Bool}
/-- a table of bytes, cell by cell -/
theorem arr_cells {t e : TypeId} {n fuel : Nat} {cs : List Value} {l : List Nat} {p : List MemPlace} (ht : P.underlying t = some (.array n e)) (he : P.underlying e = some (.int .u8)) (hc : P.cellsOf e = 1) (h : DataW.trod enc P W base sp held fuel t cs = some (.agg (l.map fun k : Nat => .lit (.int .u8 (k : Int))), p)) : ∀ i, i < n → cs[i]? = some (.int .u8 ((l.getD i 0 : Nat) : Int)) := fun i hi => by
  obtain ⟨xs, m, _, hx, _, hn, hel⟩ := DataW.trod_array ht h
  simp only [Prod.mk.injEq, DataW.agg.injEq] at hx
  have h1 := hel i hi
  rw [hc, Nat.mul_one, List.getElem?_eq_getElem (by omega)] at h1
  obtain ⟨z, e1, e2, _⟩ := DataW.trod_int he h1
  have h2 : (xs.map (·.1))[i]? = some (.lit (.int .u8 z)) := by
    rw [List.getElem?_map, List.getElem?_eq_getElem (by omega), Option.map_some, e2]
  rw [← hx.1, List.getElem?_map] at h2
  cases h3 : l[i]? with
  | none => rw [h3] at h2; cases h2
  | some k =>
    rw [h3] at h2
    simp only [Option.map_some, Option.some.injEq, DataW.lit.injEq, Lit.int.injEq, true_and] at h2
    rw [getD_some h3, h2]
    have h4 : ((cs.drop i).take 1)[0]? = some (.int .u8 z) := by rw [e1]; rfl
    simpa using h4
end
end Go.Sn
namespace Go.Sn
open Go.Gv
open Go.RowKit
/-! # The answers as functions of the hand -/
def KR.kn (r : KR) : KN := ⟨r.a, r.c, r.ks.map Int.toNat⟩
def Hd.hn (h : Hd) : HN := ⟨h.ka, h.kc, h.ks.map KR.kn, h.sa, h.sc, h.ss.map Int.toNat, h.ca, h.cc, h.cs.map Int.toNat⟩
theorem toNat_cast (l : List Nat) : (l.map fun n : Nat => (n : Int)).map Int.toNat = l := by
  rw [List.map_map]
  conv => rhs; rw [← List.map_id l]
  apply List.map_congr_left
  intro n _
  simp
theorem hn_hd (n : HN) : n.hd.hn = n := by
  unfold HN.hd Hd.hn
  simp only [toNat_cast]
  congr 1
  rw [List.map_map]
  conv => rhs; rw [← List.map_id n.ks]
  apply List.map_congr_left
  intro r _
  simp only [Function.comp, KN.kr, KR.kn, toNat_cast, id]
end Go.Sn
namespace Go.Sn
open Go.Gv
open Go.RowKit
theorem HdLe.one {n : HN} (h : HdLe n.hd) (a : Option Addr) (c i : Nat) : HdLe (n.one a c i).hd := ⟨h.k, h.r, h.kc, by simp [HN.one, HN.hd], h.c⟩
theorem memTake {S : List Pl} {k : Nat} {u : Pl} (h : S[k]? = some u) (q : Pl) : (decide (q ∈ S.take (k + 1))) = (decide (q ∈ S.take k) || decide (q = u)) := by
  rw [take_at h, Bool.eq_iff_iff]
  simp [List.mem_append]
theorem soundP_len (s : Org) (n : HN) : (soundP s n).length ≤ s.rs.length * 128 := pipesP_len _ _
end Go.Sn
namespace Go.Sn
open Go.Gv
open Go.RowKit
end Go.Sn
namespace Go.Sn
open Go.Gv
open Go.RowKit
/-! # The law of the reasons: which pipes are silent -/
section
variable {s : Org} {n : HN} {r0 p0 : Int}
end
end Go.Sn
namespace Go.Sn
open Go.Gv
open Go.RowKit
/-! # Change: the words of two sets -/
def andn (a b : Nat) : Nat := a &&& (18446744073709551615 - b)
theorem andn_lt {a b : Nat} (ha : a < 18446744073709551616) : andn a b < 18446744073709551616 := Nat.lt_of_le_of_lt Nat.and_le_left ha
theorem andn_bit {a b i : Nat} (hb : b < 18446744073709551616) (hi : i < 64) : (andn a b).testBit i = (a.testBit i && !b.testBit i) := by
  unfold andn
  rw [Nat.testBit_and, show 18446744073709551615 - b = 2 ^ 64 - (b + 1) by omega, Nat.testBit_two_pow_sub_succ (by omega)]
  simp [hi]
/-- the first k words without the other's -/
def wD (X Y k : Nat) : Nat := (if 0 < k then andn (loW X) (loW Y) else loW X) + (if 1 < k then andn (hiW X) (hiW Y) else hiW X) * 18446744073709551616
section
variable {X Y k : Nat}
theorem wD_lo : loW (wD X Y k) = if 0 < k then andn (loW X) (loW Y) else loW X := by
  have h1 : (if 0 < k then andn (loW X) (loW Y) else loW X) < 18446744073709551616 := by split; exact andn_lt (loW_lt _); exact loW_lt _
  unfold wD
  generalize (if 0 < k then andn (loW X) (loW Y) else loW X) = a at h1 ⊢
  generalize (if 1 < k then andn (hiW X) (hiW Y) else hiW X) = b
  unfold loW; omega
theorem wD_hi : hiW (wD X Y k) = if 1 < k then andn (hiW X) (hiW Y) else hiW X := by
  have h1 : (if 0 < k then andn (loW X) (loW Y) else loW X) < 18446744073709551616 := by split; exact andn_lt (loW_lt _); exact loW_lt _
  unfold wD
  generalize (if 0 < k then andn (loW X) (loW Y) else loW X) = a at h1 ⊢
  generalize (if 1 < k then andn (hiW X) (hiW Y) else hiW X) = b
  conv => lhs; unfold hiW
  omega
theorem wD_lt (hX : X < 2 ^ 128) : wD X Y k < 2 ^ 128 := by
  have h1 : (if 0 < k then andn (loW X) (loW Y) else loW X) < 18446744073709551616 := by split; exact andn_lt (loW_lt _); exact loW_lt _
  have h2 : (if 1 < k then andn (hiW X) (hiW Y) else hiW X) < 18446744073709551616 := by split; exact andn_lt (hiW_lt hX); exact hiW_lt hX
  unfold wD
  generalize (if 0 < k then andn (loW X) (loW Y) else loW X) = a at h1 ⊢
  generalize (if 1 < k then andn (hiW X) (hiW Y) else hiW X) = b at h2 ⊢
  omega
theorem wD_zero : wD X Y 0 = X := by
  unfold wD loW hiW
  rw [if_neg (by omega), if_neg (by omega)]
  omega
theorem wD_word (hk : k < 2) : wordOf (wD X Y k) k = wordOf X k := by
  unfold wordOf
  rcases (show k = 0 ∨ k = 1 by omega) with rfl | rfl
  · rw [if_pos rfl, if_pos rfl, wD_lo, if_neg (by omega)]
  · rw [if_neg (by omega), if_neg (by omega), wD_hi, if_neg (by omega)]
theorem wD_bit (hY : Y < 2 ^ 128) {n : Nat} (hn : n < 128) : (wD X Y 2).testBit n = (X.testBit n && !Y.testBit n) := by
  by_cases h : n < 64
  · have h1 : ∀ Z : Nat, Z.testBit n = (loW Z).testBit n := fun Z => by rw [loW_bit]; simp [h]
    rw [h1 (wD X Y 2), wD_lo, if_pos (by omega), andn_bit (loW_lt _) h, ← h1, ← h1]
  · have h1 : ∀ Z : Nat, Z.testBit n = (hiW Z).testBit (n - 64) := fun Z => by rw [hiW_bit, show n - 64 + 64 = n by omega]
    rw [h1 (wD X Y 2), wD_hi, if_pos (by omega), andn_bit (hiW_lt hY) (by omega), ← h1, ← h1]
end
/-- two lists of sets, changed up to the word k of the element i -/
def chg (xs ys : List Nat) (i k : Nat) : List Nat := (List.range xs.length).map fun r => wD (xs.getD r 0) (ys.getD r 0) (if r < i then 2 else if r = i then k else 0)
section
variable {xs ys : List Nat} {i k : Nat}
theorem chg_len : (chg xs ys i k).length = xs.length := by unfold chg; simp
theorem chg_zero : chg xs ys 0 0 = xs := by
  apply List.ext_getElem?
  intro r
  unfold chg
  rw [List.getElem?_map]
  rcases Nat.lt_or_ge r xs.length with h | h
  · rw [range_at h, List.getElem?_eq_getElem h, Option.map_some, if_neg (by omega), show (if r = 0 then 0 else 0) = 0 by split <;> rfl, wD_zero, getD_some (List.getElem?_eq_getElem h)]
  · rw [List.getElem?_eq_none (by simpa using h), List.getElem?_eq_none h]; rfl
theorem chg_next : chg xs ys i 2 = chg xs ys (i + 1) 0 := by
  unfold chg
  apply List.map_congr_left
  intro r _
  congr 1
  by_cases h1 : r < i
  · rw [if_pos h1, if_pos (by omega)]
  · by_cases h2 : r = i
    · rw [if_neg h1, if_pos h2, if_pos (by omega)]
    · rw [if_neg h1, if_neg h2, if_neg (by omega)]; split <;> rfl
theorem chg_get (hi : i < xs.length) : (chg xs ys i k)[i]? = some (wD (xs.getD i 0) (ys.getD i 0) k) := by
  unfold chg
  rw [List.getElem?_map, range_at hi, Option.map_some, if_neg (by omega), if_pos rfl]
theorem chg_set (hi : i < xs.length) {z : Nat} (hz : z = wD (xs.getD i 0) (ys.getD i 0) (k + 1)) : (chg xs ys i k).set i z = chg xs ys i (k + 1) := by
  subst hz
  apply List.ext_getElem?
  intro r
  rw [List.getElem?_set, chg_len]
  by_cases h : i = r
  · subst h; rw [if_pos rfl, if_pos hi, chg_get hi]
  · rw [if_neg h]
    unfold chg
    have e : (if r < i then 2 else if r = i then k else 0) = (if r < i then 2 else if r = i then k + 1 else 0) := by
      split
      · rfl
      · rw [if_neg (fun e => h e.symm), if_neg (fun e => h e.symm)]
    rw [List.getElem?_map, List.getElem?_map]
    rcases Nat.lt_or_ge r xs.length with hr | hr
    · rw [range_at hr, Option.map_some, Option.map_some, e]
    · rw [List.getElem?_eq_none (by simpa using hr), Option.map_none, Option.map_none]
theorem chg_lt (hx : ∀ x ∈ xs, x < 2 ^ 128) : ∀ z ∈ chg xs ys i k, z < 2 ^ 128 := fun z hz => by
  unfold chg at hz
  obtain ⟨r, hr, rfl⟩ := List.mem_map.1 hz
  have hr := List.mem_range.1 hr
  refine wD_lt ?_
  rw [getD_some (List.getElem?_eq_getElem hr)]
  exact hx _ (List.getElem_mem hr)
theorem chg_pipes (hl : xs.length = ys.length) (hy : ∀ y ∈ ys, y < 2 ^ 128) : pipesU (chg xs ys xs.length 0) xs.length = (pipesU xs xs.length).filter fun q => !decide (q ∈ pipesU ys xs.length) := by
  unfold pipesU
  rw [List.filter_flatMap]
  apply flat_congr
  intro d hd
  have hd := List.mem_range.1 hd
  have hz : (chg xs ys xs.length 0).getD d 0 = wD (xs.getD d 0) (ys.getD d 0) 2 := by
    refine getD_some ?_
    unfold chg
    rw [List.getElem?_map, range_at hd, Option.map_some, if_pos hd]
  have hyd : ys.getD d 0 < 2 ^ 128 := by
    rw [getD_some (List.getElem?_eq_getElem (by omega : d < ys.length))]
    exact hy _ (List.getElem_mem _)
  rw [hz, List.filter_map]
  congr 1
  unfold bitsOf
  rw [List.filter_filter]
  apply List.filter_congr
  intro n hn
  have hn := List.mem_range.1 hn
  rw [wD_bit hyd hn, Bool.and_comm]
  congr 1
  simp only [Function.comp]
  congr 1
  rw [Bool.eq_iff_iff, decide_eq_true_eq]
  simp only [List.mem_flatMap, List.mem_range, List.mem_map, List.mem_filter, Prod.mk.injEq]
  constructor
  · intro h; exact ⟨d, hd, n, ⟨hn, h⟩, rfl, rfl⟩
  · rintro ⟨d2, _, n2, ⟨_, h⟩, rfl, rfl⟩; exact h
end
/-- the answer of Change -/
def ChangeR (tp : TypeId) (s : Org) (a b : Hd) (v : Value) (L : List HL) : Prop :=
  (handErr s a ≠ 0 ∧ v = .tuple #[.slice none 0 0, .slice none 0 0, .int .i64 (handErr s a)] ∧ L = []) ∨
  (handErr s a = 0 ∧ handErr s b ≠ 0 ∧ v = .tuple #[.slice none 0 0, .slice none 0 0, .int .i64 (handErr s b)] ∧ L = []) ∨
  (handErr s a = 0 ∧ handErr s b = 0 ∧ ∃ (m n : HN) (r1 r2 : Option Nat) (c1 c2 : Nat), a = m.hd ∧ b = n.hd ∧ HGood s m ∧ HGood s n ∧ v = .tuple #[.slice (rowA r1) (diffP s n m).length c1, .slice (rowA r2) (diffP s m n).length c2, .int .i64 0] ∧
    L = [.row tp 2 r1 (diffP s n m).length c1 ((diffP s n m).flatMap plC), .row tp 2 r2 (diffP s m n).length c2 ((diffP s m n).flatMap plC)])
end Go.Sn
namespace Go.Sn
open Go.Gv
open Go.RowKit
theorem HdLe.stop {n : HN} (h : HdLe n.hd) (a : Option Addr) (c j : Nat) (hl : n.ss.length ≤ 1000) : HdLe (n.stop a c j).hd := ⟨h.k, h.r, h.kc, by have := putP_len n.ss j; simp only [HN.stop, HN.hd, List.length_map]; omega, h.c⟩
theorem HdLe.coup {n : HN} (h : HdLe n.hd) (a : Option Addr) (c j : Nat) (hl : n.cs.length ≤ 1000) : HdLe (n.coup a c j).hd := ⟨h.k, h.r, h.kc, h.t, by have := putP_len n.cs j; simp only [HN.coup, HN.hd, List.length_map]; omega⟩
theorem HdLe.keyed {n : HN} (h : HdLe n.hd) (a : Option Addr) (c i : Nat) {r : KN} (hl : r.ks.length ≤ 1000) (hc : r.ks.length ≤ r.c) : HdLe (n.keyed a c i r).hd := by
  have hm : ∀ x ∈ (n.ks.set i r).map KN.kr, x ∈ n.ks.map KN.kr ∨ x = r.kr := fun x hx => by
    obtain ⟨y, hy, rfl⟩ := List.mem_map.1 hx
    rcases List.mem_or_eq_of_mem_set hy with h1 | h1
    · exact .inl (List.mem_map_of_mem h1)
    · exact .inr (by rw [h1])
  refine ⟨?_, fun x hx => ?_, fun x hx => ?_, h.t, h.c⟩
  · have := h.k
    simp only [HN.keyed, HN.hd, List.length_map, List.length_set] at this ⊢
    exact this
  · rcases hm x hx with h1 | rfl
    · exact h.r x h1
    · simp only [KN.kr, List.length_map]; omega
  · rcases hm x hx with h1 | rfl
    · exact h.kc x h1
    · simp only [KN.kr, List.length_map]; exact hc
theorem HNIn.keyed {n : HN} {w : World} {a : Option Addr} {c i : Nat} {r : KN} (h : HNIn n w []) (hk : OldSl w [] a n.ks.length 1 ((n.ks.set i r).map KN.cell)) (hr : OldSl w [] r.a r.ks.length 1 (r.ks.map natV)) : HNIn (n.keyed a c i r) w [] := by
  refine ⟨?_, fun x hx => ?_, h.t, h.c⟩
  · simp only [HN.keyed, List.length_set]; exact hk
  · rcases List.mem_or_eq_of_mem_set hx with h1 | rfl
    · exact h.r x h1
    · exact hr
end Go.Sn
namespace Go.Sn
open Go.Gv
open Go.RowKit
/-! # Doubled -/
abbrev Db := Pl × Nat
def dbC (x : Db) : List Value := [natV x.1.1, natV x.1.2, natV x.2]
theorem db_len (X : List Db) (x : Db) : X.length + 1 = (X ++ [x]).length := by rw [List.length_append]; rfl
theorem db_cells (X : List Db) (x : Db) : X.flatMap dbC ++ dbC x = (X ++ [x]).flatMap dbC := by rw [List.flatMap_append]; simp
end Go.Sn
namespace Go.Sn
open Go.Gv
open Go.RowKit
section
variable {d r p1 p2 p3 t : Nat} {c : Option Nat} {cc0 : Nat} {ka k0 sa ca : Option Addr} {cc : Nat} {ks ss cs : List Nat}
end
section
variable {d r p1 p2 p3 t : Nat} {c : Option Nat} {cc0 : Nat} {ka k0 sa ca : Option Addr} {cc : Nat}
end
section
variable {s : Org} {n : HN} {ti ts tp td tr : TypeId} {v : Value} {L : List HL}
end
end Go.Sn
namespace Go.Sn
open Go.Gv
open Go.RowKit
/-! # The reference's way to what sounds: all pipes, one by one -/
def rkA (s : Org) (r : Nat) : Rk := s.rs.getD r default
def allI (s : Org) (r k : Nat) : List Pl := (List.range k).map fun j => (r, (rkA s r).low.toNat + j)
def allK (s : Org) (r : Nat) : List Pl := (List.range r).flatMap fun d => allI s d (rkA s d).count.toNat
def allP (s : Org) : List Pl := allK s s.rs.length
theorem allI_next (s : Org) (r k : Nat) : allI s r (k + 1) = allI s r k ++ [(r, (rkA s r).low.toNat + k)] := by unfold allI; rw [List.range_succ, List.map_append]; rfl
theorem allK_next (s : Org) (r : Nat) : allK s (r + 1) = allK s r ++ allI s r (rkA s r).count.toNat := by unfold allK; rw [List.range_succ, List.flatMap_append]; simp
theorem allI_len (s : Org) (r k : Nat) : (allI s r k).length = k := by unfold allI; simp
theorem rank_ok {s : Org} (h : (checkP s).2 = 0) {r : Nat} (hr : r < s.rs.length) : 0 ≤ (rkA s r).low ∧ (rkA s r).low ≤ 127 ∧ 1 ≤ (rkA s r).count ∧ (rkA s r).count ≤ 97 ∧ (rkA s r).low + (rkA s r).count ≤ 128 := by
  have h1 := rkBad_no (rkErr_ok ((checkP_facts h).2.2.1 r hr))
  unfold rkA
  omega
theorem allK_len {s : Org} (h : (checkP s).2 = 0) : ∀ r, r ≤ s.rs.length → (allK s r).length ≤ r * 97
  | 0, _ => Nat.le_refl _
  | r + 1, hr => by
    have h1 := allK_len h r (by omega)
    have h2 := rank_ok h (show r < s.rs.length by omega)
    rw [allK_next, List.length_append, allI_len]; omega
/-- a part plays pipes that are there -/
theorem plays_there {s : Org} (h : (checkP s).2 = 0) {i : Nat} {x : St} (hx : s.ss[i]? = some x) {n : Nat} {q : Pl} (hp : playsB x n q = true) : q.1 < s.rs.length ∧ (rkA s q.1).low ≤ (q.2 : Int) ∧ (q.2 : Int) < (rkA s q.1).low + (rkA s q.1).count := by
  have hi : i < s.ss.length := (List.getElem?_eq_some_iff.1 hx).1
  have h1 := (checkP_facts h).2.2.2.1 i hi
  unfold stO at h1
  split at h1
  · cases h1
  have h4 : ∀ k, k < x.ps.length → ptErr s.rs (s.ds.getD x.div.toNat default) (x.ps.getD k default) = 0 := by
    rw [getD_some hx] at h1
    split at h1
    · cases h1
    · rename_i he
      intro k hk
      have := firstO_none_iff he k (Nat.zero_le _) (by omega)
      simp only at this
      split at this
      · assumption
      · cases this
  unfold playsB at hp
  rw [List.any_eq_true] at hp
  obtain ⟨p, hm, h5⟩ := hp
  obtain ⟨k, hk⟩ := List.getElem?_of_mem hm
  have h6 := h4 k (List.getElem?_eq_some_iff.1 hk).1
  rw [getD_some hk] at h6
  simp only [Bool.and_eq_true, decide_eq_true_eq] at h5
  obtain ⟨h7, rfl⟩ := h5
  unfold hitB at h7
  simp only [Bool.and_eq_true, decide_eq_true_eq] at h7
  unfold ptErr at h6
  split at h6
  · omega
  · rename_i h8
    split at h6
    · omega
    · split at h6
      · omega
      · rename_i h9
        have h8 : idxB p.rank s.rs.length = true := by simpa using h8
        have h9 : ptHas (s.rs.getD p.rank.toNat default) p = true := by simpa using h9
        unfold idxB at h8
        unfold ptHas at h9
        simp only [Bool.and_eq_true, decide_eq_true_eq] at h8 h9
        have h10 := rank_ok h (show p.rank.toNat < s.rs.length by omega)
        unfold rkA at h10 ⊢
        unfold pipeOf
        simp only
        omega
theorem range_mid {lo n : Nat} (h : lo + n ≤ 128) {g : Nat → Bool} (hg : ∀ k, g k = true → lo ≤ k ∧ k < lo + n) : (List.range 128).filter g = ((List.range n).map (lo + ·)).filter g := by
  rw [show 128 = lo + (n + (128 - (lo + n))) by omega, List.range_add, List.filter_append, List.range_add, List.map_append, List.filter_append]
  have e1 : (List.range lo).filter g = [] := by
    rw [List.filter_eq_nil_iff]
    intro k hk hs
    have := hg k hs
    have := List.mem_range.1 hk
    omega
  have e2 : (((List.range (128 - (lo + n))).map (n + ·)).map (lo + ·)).filter g = [] := by
    rw [List.filter_eq_nil_iff]
    intro k hk hs
    have := hg k hs
    obtain ⟨j, hj, rfl⟩ := List.mem_map.1 hk
    obtain ⟨j2, _, rfl⟩ := List.mem_map.1 hj
    omega
  rw [e1, e2, List.nil_append, List.append_nil]
theorem all_filter {s : Org} (h : (checkP s).2 = 0) {f : Pl → Nat} (hf : ∀ q, 0 < f q → q.1 < s.rs.length → (rkA s q.1).low ≤ (q.2 : Int) ∧ (q.2 : Int) < (rkA s q.1).low + (rkA s q.1).count) : (allP s).filter (fun q => decide (0 < f q)) = pipesP s.rs.length f := by
  unfold allP allK pipesP
  rw [List.filter_flatMap]
  apply flat_congr
  intro r hr
  have hr := List.mem_range.1 hr
  have h1 := rank_ok h hr
  unfold allI
  rw [range_mid (lo := (rkA s r).low.toNat) (n := (rkA s r).count.toNat) (by omega) (fun k hk => by
    have := hf (r, k) (of_decide_eq_true hk) hr
    simp only at this
    omega), List.filter_map, List.filter_map, List.map_map]
  rfl
/-- what the reference's sounds returns -/
def rsD (s : Org) (f : Pl → Nat) (k : Nat) : List Db := (((allP s).take k).filter fun q => decide (0 < f q)).map fun q => (q, f q)
theorem rsD_yes {s : Org} {f : Pl → Nat} {k : Nat} {q : Pl} (h : (allP s)[k]? = some q) (hf : 0 < f q) : rsD s f (k + 1) = rsD s f k ++ [(q, f q)] := by
  unfold rsD; rw [take_at h, List.filter_append, List.map_append]; simp [hf]
theorem rsD_no {s : Org} {f : Pl → Nat} {k : Nat} {q : Pl} (h : (allP s)[k]? = some q) (hf : ¬ 0 < f q) : rsD s f (k + 1) = rsD s f k := by
  unfold rsD; rw [take_at h, List.filter_append, List.map_append]; simp [hf]
theorem rsD_len (s : Org) (f : Pl → Nat) (k : Nat) : (rsD s f k).length ≤ k := by
  unfold rsD
  have h1 := List.length_filter_le (fun q => decide (0 < f q)) ((allP s).take k)
  rw [List.length_map]
  rw [List.length_take] at h1
  omega
section
variable {s : Org} {h : HN}
theorem cnt_there (hg : HGood s h) {q : Pl} (hq : 0 < cntP s h h.ss.length q) : q.1 < s.rs.length ∧ (rkA s q.1).low ≤ (q.2 : Int) ∧ (q.2 : Int) < (rkA s q.1).low + (rkA s q.1).count := by
  unfold cntP at hq
  rw [cntS_pos] at hq
  obtain ⟨i, hi, h1⟩ := hq
  rw [cntK_pos] at h1
  obtain ⟨n, _, h2⟩ := h1
  have hi2 := hg.ssN i (List.mem_of_mem_take hi)
  obtain ⟨x, hx⟩ := get_some hi2
  rw [show stA s i = x from getD_some hx] at h2
  exact plays_there hg.spec hx h2
theorem rsD_all (hg : HGood s h) : rsD s (cntP s h h.ss.length) (allP s).length = (soundP s h).map fun q => (q, cntP s h h.ss.length q) := by
  unfold rsD soundP
  rw [List.take_length, all_filter hg.spec fun q hq _ => (cnt_there hg hq).2]
theorem rsD_pipes (hg : HGood s h) : (rsD s (cntP s h h.ss.length) (allP s).length).map (·.1) = soundP s h := by
  rw [rsD_all hg, List.map_map]
  conv => rhs; rw [← List.map_id (soundP s h)]
  rfl
/-- the keys of a stop, counted up to one -/
theorem cnt_low {T : Tab} {x : St} {q : Pl} {A : Cx} (hA : A.Ok) (hT : Chains A T) {d lo : Nat} (hd : d < A.ds.length) (hlo : (A.dv d).lo = lo) : cntK x (rowK T d lo) q = 0 := by
  rw [rowK_low fun k hk => by
    obtain ⟨v, hv⟩ := Option.isSome_iff_exists.1 hk
    have := ((hT.best _ _ hv).1.rng hA).1
    simp only at this
    omega]
  rfl
theorem cnt_high {T : Tab} (hA : (cxN s h).Ok) (hT : Chains (cxN s h) T) {d hi : Nat} (hd : d < s.ds.length) (hhi : ((cxN s h).dv d).hi < hi) (hi7 : hi ≤ 128) : rowK T d hi = (keysP s h).getD d [] := by
  have hTe : T = tabOf (actP (cxN s h)).tb := hT.eq hA (act_chains hA)
  have h1 : (keysP s h)[d]? = some (rowK (tabOf (actP (cxN s h)).tb) d 128) := by
    unfold keysP keysT
    rw [List.getElem?_map, range_at hd]; rfl
  rw [getD_some h1, ← hTe, show 128 = hi + (128 - hi) by omega, rowK_high]
  intro q hq
  obtain ⟨v, hv⟩ := Option.isSome_iff_exists.1 hq
  have := ((hT.best _ _ hv).1.rng hA).2
  simp only at this
  omega
end
end Go.Sn
namespace Go.Sn
open Go.Gv
open Go.RowKit
section
variable {P : Program} {f : FuncId} {args : List Value} {w0 : World} {S : List Nat} {tp td : TypeId} {s : Org} {h : Hd}
/-- Change: the two lists, the error -/
def chgA (s : Org) (a b : Hd) : List Pl × List Pl × Int := if handErr s a ≠ 0 then ([], [], handErr s a) else if handErr s b ≠ 0 then ([], [], handErr s b) else (diffP s b.hn a.hn, diffP s a.hn b.hn, 0)
def ChQ (tp : TypeId) (u : List Pl × List Pl × Int) (v : Value) (L : List HL) : Prop := ∃ (r1 r2 : Option Nat) (c1 c2 : Nat), v = .tuple #[.slice (rowA r1) u.1.length c1, .slice (rowA r2) u.2.1.length c2, .int .i64 u.2.2] ∧ L = [.row tp 2 r1 u.1.length c1 (u.1.flatMap plC), .row tp 2 r2 u.2.1.length c2 (u.2.1.flatMap plC)]
theorem chgQ_sp {b : Hd} (hs : Sp P f args w0 S (ChangeR tp s h b)) : Sp P f args w0 S (ChQ tp (chgA s h b)) := by
  unfold Sp at hs ⊢
  refine Calls.mono hs fun e w' ⟨v, l, h1, h2, h3⟩ => ?_
  rcases h2 with ⟨he, rfl, rfl⟩ | ⟨he, he2, rfl, rfl⟩ | ⟨he, he2, m, n, r1, r2, c1, c2, rfl, rfl, hgm, hgn, rfl, rfl⟩
  · refine ⟨_, _, h1, ⟨none, none, 0, 0, ?_⟩, (h3.nilRow tp 2).nilRow tp 2⟩
    unfold chgA
    rw [if_pos he]
    exact ⟨rfl, rfl⟩
  · refine ⟨_, _, h1, ⟨none, none, 0, 0, ?_⟩, (h3.nilRow tp 2).nilRow tp 2⟩
    unfold chgA
    rw [if_neg (fun h => h he), if_pos he2]
    exact ⟨rfl, rfl⟩
  · refine ⟨_, _, h1, ⟨r1, r2, c1, c2, ?_⟩, h3⟩
    unfold chgA
    rw [if_neg (fun h => h he), if_neg (fun h => h he2), hn_hd, hn_hd]
    exact ⟨rfl, rfl⟩
theorem chgA_len {b : Hd} (hh : HdLe h) (hb : HdLe b) : (chgA s h b).1.length ≤ 1000000 ∧ (chgA s h b).2.1.length ≤ 1000000 := by
  unfold chgA
  split
  · exact ⟨Nat.zero_le _, Nat.zero_le _⟩
  · rename_i he
    split
    · exact ⟨Nat.zero_le _, Nat.zero_le _⟩
    · rename_i he2
      obtain ⟨m, rfl, hgm⟩ := good_of (s := s) hh (by omega)
      obtain ⟨n, rfl, hgn⟩ := good_of (s := s) hb (by omega)
      rw [hn_hd, hn_hd]
      have h1 := soundP_len s m
      have h2 := soundP_len s n
      have h3 := hgm.nr
      have h4 : (diffP s n m).length ≤ (soundP s n).length := List.length_filter_le _ _
      have h5 : (diffP s m n).length ≤ (soundP s m).length := List.length_filter_le _ _
      simp only
      omega
end
end Go.Sn
