import Derived.Test.YtafmcflggikbfaaW00
import Derived.Lib.ItoaNum
import Derived.Deep.Slices
import Derived.Deep.Strs
import Derived.SizedLaws
import Derived.Carry
import Derived.ProofKit
import Derived.OpenShut
/- A part of the proof: the plain law. -/
set_option autoImplicit false
set_option linter.unusedSimpArgs false
set_option linter.unusedVariables false
set_option linter.unnecessarySimpa false
namespace Go.Sn
open Go.Gv
/-! # Specifications of organs in plain Lean -/
structure Dv where
  name : ByteArray
  lo : Int
  hi : Int
  deriving Inhabited
structure Rk where
  name : ByteArray
  kind : Int
  num : Int
  den : Int
  low : Int
  count : Int
  deriving Inhabited
structure Pt where
  rank : Int
  shift : Int
  lo : Int
  hi : Int
  deriving Inhabited
structure St where
  name : ByteArray
  div : Int
  num : Int
  den : Int
  pa : Option Addr
  pc : Nat
  ps : List Pt
  deriving Inhabited
structure Cp where
  name : ByteArray
  src : Int
  dst : Int
  shift : Int
  only : Int
  thr : Bool
  deriving Inhabited
structure Org where
  da : Option Addr
  dc : Nat
  ds : List Dv
  ra : Option Addr
  rc : Nat
  rs : List Rk
  sa : Option Addr
  sc : Nat
  ss : List St
  ca : Option Addr
  cc : Nat
  cs : List Cp
def Dv.cells (x : Dv) : List Value := [.string x.name, .int .i64 x.lo, .int .i64 x.hi]
def Rk.cells (x : Rk) : List Value := [.string x.name, .int .i64 x.kind, .int .i64 x.num, .int .i64 x.den, .int .i64 x.low, .int .i64 x.count]
def Pt.cells (x : Pt) : List Value := [.int .i64 x.rank, .int .i64 x.shift, .int .i64 x.lo, .int .i64 x.hi]
def St.cells (x : St) : List Value := [.string x.name, .int .i64 x.div, .int .i64 x.num, .int .i64 x.den, .slice x.pa x.ps.length x.pc]
def Cp.cells (x : Cp) : List Value := [.string x.name, .int .i64 x.src, .int .i64 x.dst, .int .i64 x.shift, .int .i64 x.only, .bool x.thr]
def Org.cells (s : Org) : List Value := [.slice s.da s.ds.length s.dc, .slice s.ra s.rs.length s.rc, .slice s.sa s.ss.length s.sc, .slice s.ca s.cs.length s.cc]
abbrev Dv.val (x : Dv) : Value := .agg #[.string x.name, .int .i64 x.lo, .int .i64 x.hi]
abbrev Rk.val (x : Rk) : Value := .agg #[.string x.name, .int .i64 x.kind, .int .i64 x.num, .int .i64 x.den, .int .i64 x.low, .int .i64 x.count]
abbrev Pt.val (x : Pt) : Value := .agg #[.int .i64 x.rank, .int .i64 x.shift, .int .i64 x.lo, .int .i64 x.hi]
abbrev St.val (x : St) : Value := .agg #[.string x.name, .int .i64 x.div, .int .i64 x.num, .int .i64 x.den, .slice x.pa x.ps.length x.pc]
abbrev Cp.val (x : Cp) : Value := .agg #[.string x.name, .int .i64 x.src, .int .i64 x.dst, .int .i64 x.shift, .int .i64 x.only, .bool x.thr]
abbrev Org.val (s : Org) : Value := .agg #[.slice s.da s.ds.length s.dc, .slice s.ra s.rs.length s.rc, .slice s.sa s.ss.length s.sc, .slice s.ca s.cs.length s.cc]
/-- a specification in memory -/
structure OrgIn (s : Org) (w : World) (S : List Nat) : Prop where
  d : OldSl w S s.da s.ds.length 3 (s.ds.flatMap Dv.cells)
  r : OldSl w S s.ra s.rs.length 6 (s.rs.flatMap Rk.cells)
  t : OldSl w S s.sa s.ss.length 5 (s.ss.flatMap St.cells)
  c : OldSl w S s.ca s.cs.length 6 (s.cs.flatMap Cp.cells)
  p : ∀ x ∈ s.ss, OldSl w S x.pa x.ps.length 4 (x.ps.flatMap Pt.cells)
/-- sizes -/
structure OrgLe (s : Org) : Prop where
  d : s.ds.length ≤ 140737488355328
  r : s.rs.length ≤ 140737488355328
  t : s.ss.length ≤ 140737488355328
  c : s.cs.length ≤ 140737488355328
  p : ∀ x ∈ s.ss, x.ps.length ≤ 140737488355328
  pc : ∀ x ∈ s.ss, x.ps.length ≤ x.pc
  dn : ∀ x ∈ s.ds, x.name.size ≤ 140737488355328
  rn : ∀ x ∈ s.rs, x.name.size ≤ 140737488355328
  tn : ∀ x ∈ s.ss, x.name.size ≤ 140737488355328
  cn : ∀ x ∈ s.cs, x.name.size ≤ 140737488355328
theorem OrgIn.at {s : Org} {w0 w : World} {S : List Nat} {l : List HL} (h : OrgIn s w0 S) (ho : Own w0 S w l) : OrgIn s w [] := ⟨h.d.at ho, h.r.at ho, h.t.at ho, h.c.at ho, fun x hx => (h.p x hx).at ho⟩
theorem OrgIn.atS {s : Org} {w0 w : World} {S Sc : List Nat} {l : List HL} (h : OrgIn s w0 S) (ho : Own w0 S w l) (hlt : ∀ b ∈ Sc, w0.heap.size ≤ b) : OrgIn s w Sc := ⟨h.d.atS ho (by decide) hlt, h.r.atS ho (by decide) hlt, h.t.atS ho (by decide) hlt, h.c.atS ho (by decide) hlt, fun x hx => (h.p x hx).atS ho (by decide) hlt⟩
/-! ## names -/
def letterB (c : Nat) : Bool := (decide (97 ≤ c) && decide (c ≤ 122)) || (decide (65 ≤ c) && decide (c ≤ 90))
def digitB (c : Nat) : Bool := decide (48 ≤ c) && decide (c ≤ 57)
def byteAt (s : ByteArray) (i : Nat) : Nat := (s.data.getD i 0).toNat
def okAt (s : ByteArray) (i : Nat) : Bool := letterB (byteAt s i) || (decide (i ≠ 0) && (decide (byteAt s i = 95) || digitB (byteAt s i)))
def nameB (s : ByteArray) : Bool := (decide (1 ≤ s.size) && decide (s.size ≤ 16)) && (List.range s.size).all (okAt s)
set_option maxRecDepth 100000 in
theorem letterB_or : ∀ c : Fin 256, (decide (97 ≤ c.val ||| 32) && decide (c.val ||| 32 ≤ 122)) = letterB c.val := by decide
theorem byteAt_lt (s : ByteArray) (i : Nat) : byteAt s i < 256 := UInt8.toNat_lt _
theorem byteAt_get (s : ByteArray) (i : Nat) (h : i < s.size) : s[i]? = some (s.data.getD i 0) := by
  have : i < s.data.size := h
  simp [getElem?_def, h, Array.getD_eq_getD_getElem?, ByteArray.getElem_eq_getElem_data]
theorem nameB_no {s : ByteArray} {i : Nat} (h : i < s.size) (hb : okAt s i = false) : nameB s = false := by
  unfold nameB
  have : (List.range s.size).all (okAt s) = false := by
    rw [List.all_eq_false]
    exact ⟨i, List.mem_range.2 h, by simp [hb]⟩
  simp [this]
theorem nameB_all {s : ByteArray} (h : ∀ i, i < s.size → okAt s i = true) : nameB s = (decide (1 ≤ s.size) && decide (s.size ≤ 16)) := by
  unfold nameB
  have : (List.range s.size).all (okAt s) = true := by
    rw [List.all_eq_true]; intro i hi; exact h i (List.mem_range.1 hi)
  simp [this]
/-! ## footages -/
def feetB (num den : Int) : Bool := decide (1 ≤ den) && decide (den ≤ 15) && decide (1 ≤ num) && decide (num ≤ 64 * den) && decide (Nat.gcd num.toNat den.toNat = 1)
/-! ## the first of some -/
def firstO {β : Type} (g : Nat → Option β) : Nat → Nat → Option (Nat × β)
  | 0, _ => none
  | n + 1, i => match g i with
    | some b => some (i, b)
    | none => firstO g n (i + 1)
theorem firstO_none_iff {β : Type} {g : Nat → Option β} : ∀ {n i : Nat}, firstO g n i = none → ∀ j, i ≤ j → j < i + n → g j = none
  | 0, i, _, j, h1, h2 => by omega
  | n + 1, i, h, j, h1, h2 => by
    cases hg : g i with
    | some b => simp [firstO, hg] at h
    | none =>
      simp only [firstO, hg] at h
      by_cases e : i = j
      · subst e; exact hg
      · exact firstO_none_iff h j (by omega) (by omega)
theorem firstO_some {β : Type} {g : Nat → Option β} : ∀ {n i k : Nat} {b : β}, firstO g n i = some (k, b) → i ≤ k ∧ k < i + n ∧ g k = some b ∧ ∀ j, i ≤ j → j < k → g j = none
  | 0, i, k, b, h => by simp [firstO] at h
  | n + 1, i, k, b, h => by
    cases hg : g i with
    | some c =>
      simp only [firstO, hg, Option.some.injEq, Prod.mk.injEq] at h
      obtain ⟨rfl, rfl⟩ := h
      exact ⟨Nat.le_refl _, by omega, hg, fun j h1 h2 => by omega⟩
    | none =>
      simp only [firstO, hg] at h
      obtain ⟨h1, h2, h3, h4⟩ := firstO_some h
      refine ⟨by omega, by omega, h3, fun j h5 h6 => ?_⟩
      by_cases e : i = j
      · subst e; exact hg
      · exact h4 j (by omega) h6
/-- an earlier one with the same name -/
def twice (names : Nat → ByteArray) (i : Nat) : Bool := (List.range i).any fun k => decide (names k = names i)
def dvBad (d : Dv) : Bool := !(decide (0 ≤ d.lo) && decide (d.lo ≤ 127) && decide (d.lo ≤ d.hi) && decide (d.hi ≤ 127) && decide (d.hi ≤ d.lo + 60))
def dvN (l : List Dv) (k : Nat) : ByteArray := (l.getD k default).name
def rkN (l : List Rk) (k : Nat) : ByteArray := (l.getD k default).name
def cpN (l : List Cp) (k : Nat) : ByteArray := (l.getD k default).name
def dvErr (l : List Dv) (i : Nat) : Int := if nameB (dvN l i) = false then 6 else if twice (dvN l) i then 8 else if dvBad (l.getD i default) then 7 else 0
def rkArg (r : Rk) : Bool := !(decide (1 ≤ r.kind) && decide (r.kind ≤ 4) && feetB r.num r.den)
def rkBad (r : Rk) : Bool := !(decide (1 ≤ r.count) && decide (r.count ≤ 97) && decide (0 ≤ r.low) && decide (r.low ≤ 128 - r.count))
def rkErr (l : List Rk) (i : Nat) : Int := if nameB (rkN l i) = false then 6 else if twice (rkN l) i then 8 else if rkArg (l.getD i default) then 2 else if rkBad (l.getD i default) then 7 else 0
def stTwice (l : List St) (i : Nat) : Bool := (List.range i).any fun k => decide ((l.getD k default).div = (l.getD i default).div) && decide ((l.getD k default).name = (l.getD i default).name)
def idxB (i : Int) (n : Nat) : Bool := decide (0 ≤ i) && decide (i < n)
def stErr (nd : Nat) (l : List St) (i : Nat) : Int :=
  let x := l.getD i default
  if nameB x.name = false then 6 else if idxB x.div nd = false then 4 else if stTwice l i then 8 else if (!feetB x.num x.den || decide (x.ps.length = 0)) then 2 else if decide (12 < x.ps.length) then 3 else 0
def ptRange (d : Dv) (p : Pt) : Bool := decide (d.lo ≤ p.lo) && decide (p.lo ≤ p.hi) && decide (p.hi ≤ d.hi) && decide (-96 ≤ p.shift) && decide (p.shift ≤ 96)
def ptHas (r : Rk) (p : Pt) : Bool := decide (r.low ≤ p.lo + p.shift) && decide (p.hi + p.shift < r.low + r.count)
def ptErr (rs : List Rk) (d : Dv) (p : Pt) : Int := if idxB p.rank rs.length = false then 4 else if ptRange d p = false then 7 else if ptHas (rs.getD p.rank.toNat default) p = false then 4 else 0
def cpArg (c : Cp) : Bool := !((decide (c.shift = -12) || decide (c.shift = 12) || (decide (c.shift = 0) && decide (c.src ≠ c.dst))) && (decide (0 ≤ c.only) && decide (c.only ≤ 2)) && !(c.thr && decide (c.only ≠ 0)))
def cpErr (nd : Nat) (l : List Cp) (i : Nat) : Int :=
  let x := l.getD i default
  if nameB (cpN l i) = false then 6 else if twice (cpN l) i then 8 else if (!idxB x.src nd || !idxB x.dst nd) then 4 else if cpArg x then 2 else 0
def errO (e : Int) : Option (Nat × Int) := if e = 0 then none else some (0, e)
def stO (s : Org) (i : Nat) : Option (Nat × Int) :=
  if stErr s.ds.length s.ss i ≠ 0 then some (0, stErr s.ds.length s.ss i)
  else match firstO (fun k => let e := ptErr s.rs (s.ds.getD ((s.ss.getD i default).div).toNat default) ((s.ss.getD i default).ps.getD k default); if e = 0 then none else some e) (s.ss.getD i default).ps.length 0 with
    | some (k, e) => some (k + 1, e)
    | none => none
structure Fault where
  what : Nat
  index : Nat
  part : Nat
def Fault.val (f : Fault) : Value := .agg #[.int .i64 (f.what : Int), .int .i64 (f.index : Int), .int .i64 (f.part : Int)]
def longB (s : Org) : Bool := decide (6 < s.ds.length) || decide (40 < s.rs.length) || decide (80 < s.ss.length) || decide (24 < s.cs.length)
def checkP (s : Org) : Fault × Int :=
  if longB s then (⟨0, 0, 0⟩, 3) else
  match firstO (fun i => errO (dvErr s.ds i)) s.ds.length 0 with
  | some (i, k, e) => (⟨1, i, k⟩, e)
  | none => match firstO (fun i => errO (rkErr s.rs i)) s.rs.length 0 with
    | some (i, k, e) => (⟨2, i, k⟩, e)
    | none => match firstO (stO s) s.ss.length 0 with
      | some (i, k, e) => (⟨3, i, k⟩, e)
      | none => match firstO (fun i => errO (cpErr s.ds.length s.cs i)) s.cs.length 0 with
        | some (i, k, e) => (⟨4, i, k⟩, e)
        | none => (⟨0, 0, 0⟩, 0)
end Go.Sn
namespace Go.Sn
open Go.Gv
/-! # The checker of specifications, with the names that it has seen -/
def blankS : ByteArray := ⟨#[32]⟩
def kStop : ByteArray := ⟨#[115, 116, 111, 112, 32]⟩
def seeKey (kind name : ByteArray) : ByteArray := (kind ++ blankS) ++ name
def namedP (K : List ByteArray) (kind name : ByteArray) : Int := if nameB name = false then 6 else if memB (seeKey kind name) K then 8 else 0
def namedK (K : List ByteArray) (kind name : ByteArray) : List ByteArray := if namedP K kind name = 0 then K ++ [seeKey kind name] else K
def decS (i : Nat) : ByteArray := ⟨(Lib.decDigits i).toArray⟩
theorem dvBad_no {d : Dv} (h : dvBad d = false) : 0 ≤ d.lo ∧ d.lo ≤ 127 ∧ d.lo ≤ d.hi ∧ d.hi ≤ 127 ∧ d.hi ≤ d.lo + 60 := by
  unfold dvBad at h
  simp only [Bool.not_eq_false', Bool.and_eq_true, decide_eq_true_eq] at h
  omega
theorem dvErr_ok {l : List Dv} {i : Nat} (h : dvErr l i = 0) : dvBad (l.getD i default) = false := by
  unfold dvErr at h
  split at h
  · omega
  · split at h
    · omega
    · cases hb : dvBad (l.getD i default) with
      | false => rfl
      | true => rw [hb] at h; simp at h
end Go.Sn
namespace Go.Sn
open Go.Gv
/-! # The checker with its names finds what the document says -/
theorem ba_ext {a b : ByteArray} (h : a.data.toList = b.data.toList) : a = b := by
  obtain ⟨x⟩ := a
  obtain ⟨y⟩ := b
  have : x = y := Array.toList_inj.1 h
  rw [this]
theorem app_list (a b : ByteArray) : (a ++ b).data.toList = a.data.toList ++ b.data.toList := by
  rw [ByteArray.data_append]; simp
theorem last_blank {α : Type} {z : α} : ∀ {a b x y : List α}, a ++ z :: x = b ++ z :: y → z ∉ x → z ∉ y → a = b ∧ x = y
  | [], [], x, y, h, _, _ => by simp at h; exact ⟨rfl, h⟩
  | [], c :: b, x, y, h, hx, _ => by
    simp only [List.nil_append, List.cons_append, List.cons.injEq] at h
    exact absurd (by rw [h.2]; simp) hx
  | c :: a, [], x, y, h, _, hy => by
    simp only [List.nil_append, List.cons_append, List.cons.injEq] at h
    exact absurd (by rw [← h.2]; simp) hy
  | c :: a, d :: b, x, y, h, hx, hy => by
    simp only [List.cons_append, List.cons.injEq] at h
    obtain ⟨h1, h2⟩ := last_blank h.2 hx hy
    exact ⟨by rw [h.1, h1], h2⟩
theorem name_blank {s : ByteArray} (h : nameB s = true) : (32 : UInt8) ∉ s.data.toList := fun hm => by
  unfold nameB at h
  simp only [Bool.and_eq_true, List.all_eq_true, List.mem_range] at h
  obtain ⟨i, hi, he⟩ := List.getElem_of_mem hm
  have h1 := h.2 i (by simpa using hi)
  have h2 : byteAt s i = 32 := by
    have hi' : i < s.data.size := by simpa using hi
    unfold byteAt
    rw [Array.getD_eq_getD_getElem?, Array.getElem?_eq_getElem hi']
    have : s.data[i] = 32 := by simpa using he
    simp [this]
  unfold okAt letterB digitB at h1
  rw [h2] at h1
  simp at h1
theorem seeKey_inj {k1 k2 n1 n2 : ByteArray} (h1 : nameB n1 = true) (h2 : nameB n2 = true) (h : seeKey k1 n1 = seeKey k2 n2) : k1 = k2 ∧ n1 = n2 := by
  have h3 := congrArg (fun b : ByteArray => b.data.toList) h
  simp only [seeKey, app_list] at h3
  have e : blankS.data.toList = [32] := rfl
  rw [e, List.append_assoc, List.append_assoc] at h3
  obtain ⟨a, b⟩ := last_blank (z := (32 : UInt8)) h3 (name_blank h1) (name_blank h2)
  exact ⟨ba_ext a, ba_ext b⟩
/-- what has been seen -/
structure Kn (K : List ByteArray) (Pk : ByteArray → ByteArray → Prop) : Prop where
  of : ∀ key ∈ K, ∃ kd nm, key = seeKey kd nm ∧ nameB nm = true ∧ Pk kd nm
  to : ∀ kd nm, Pk kd nm → seeKey kd nm ∈ K
theorem Kn.mem {K : List ByteArray} {Pk : ByteArray → ByteArray → Prop} (h : Kn K Pk) {kd nm : ByteArray} (hn : nameB nm = true) : memB (seeKey kd nm) K = true ↔ Pk kd nm := by
  rw [memB_iff]
  constructor
  · intro hm
    obtain ⟨k2, n2, e, hn2, hp⟩ := h.of _ hm
    obtain ⟨rfl, rfl⟩ := seeKey_inj hn hn2 e
    exact hp
  · exact h.to kd nm
theorem Kn.nil : Kn [] (fun _ _ => False) := ⟨fun _ h => by simp at h, fun _ _ h => h.elim⟩
theorem Kn.put {K : List ByteArray} {Pk : ByteArray → ByteArray → Prop} (h : Kn K Pk) {kd nm : ByteArray} (h0 : namedP K kd nm = 0) : Kn (namedK K kd nm) (fun a b => Pk a b ∨ (a = kd ∧ b = nm)) := by
  have hn : nameB nm = true := by
    unfold namedP at h0
    split at h0
    · omega
    · rename_i h1; simpa using h1
  unfold namedK
  rw [if_pos h0]
  refine ⟨fun key hk => ?_, fun a b hp => ?_⟩
  · rcases List.mem_append.1 hk with hk | hk
    · obtain ⟨a, b, c, d, e⟩ := h.of key hk
      exact ⟨a, b, c, d, .inl e⟩
    · exact ⟨kd, nm, List.mem_singleton.1 hk, hn, .inr ⟨rfl, rfl⟩⟩
  · rcases hp with hp | ⟨rfl, rfl⟩
    · exact List.mem_append_left _ (h.to a b hp)
    · exact List.mem_append_right _ (by simp)
/-- the stops' names so far, by divisions -/
def Ps (Q : ByteArray → ByteArray → Prop) (l : List St) (i : Nat) : ByteArray → ByteArray → Prop := fun a b => Q a b ∨ ∃ j, j < i ∧ a = kStop ++ decS (l.getD j default).div.toNat ∧ b = (l.getD j default).name
structure SInv (s : Org) (Q : ByteArray → ByteArray → Prop) (i : Nat) (K : List ByteArray) : Prop where
  kn : Kn K (Ps Q s.ss i)
  dv : ∀ j, j < i → 0 ≤ (s.ss.getD j default).div ∧ (s.ss.getD j default).div < s.ds.length
end Go.Sn
namespace Go.Sn
/-! # What acts: chains of couplers -/
abbrev Pl := Nat × Nat
/-- is a list less than another one that is as long -/
def lessB : List Nat → List Nat → Bool
  | a :: as, b :: bs => if a = b then lessB as bs else decide (a < b)
  | _, _ => false
theorem lessB_irrefl : ∀ a : List Nat, lessB a a = false
  | [] => rfl
  | a :: as => by simp [lessB, lessB_irrefl as]
theorem lessB_asymm : ∀ {a b : List Nat}, lessB a b = true → lessB b a = false
  | [], _, h => by simp [lessB] at h
  | _ :: _, [], h => by simp [lessB] at h
  | a :: as, b :: bs, h => by
    simp only [lessB] at h ⊢
    by_cases e : a = b
    · subst e; simp only [if_true] at h ⊢; exact lessB_asymm h
    · have e2 : ¬ b = a := fun h => e h.symm
      simp only [e, e2, if_false, decide_eq_true_eq, decide_eq_false_iff_not] at h ⊢; omega
theorem lessB_trans : ∀ {a b c : List Nat}, lessB a b = true → lessB b c = true → lessB a c = true
  | [], _, _, h, _ => by simp [lessB] at h
  | _ :: _, [], _, h, _ => by simp [lessB] at h
  | _ :: _, _ :: _, [], _, h => by simp [lessB] at h
  | a :: as, b :: bs, c :: cs, h, h2 => by
    simp only [lessB] at h h2 ⊢
    by_cases e : a = b
    · subst e
      simp only [if_true] at h
      by_cases e2 : a = c
      · subst e2; simp only [if_true] at h2 ⊢; exact lessB_trans h h2
      · simp only [e2, if_false] at h2 ⊢; exact h2
    · simp only [e, if_false, decide_eq_true_eq] at h
      by_cases e2 : b = c
      · subst e2; simp only [e, if_false, decide_eq_true_eq]; exact h
      · simp only [e2, if_false, decide_eq_true_eq] at h2
        have : ¬ a = c := by omega
        simp only [this, if_false, decide_eq_true_eq]; omega
theorem lessB_total : ∀ {a b : List Nat}, a.length = b.length → lessB a b = false → lessB b a = false → a = b
  | [], [], _, _, _ => rfl
  | [], _ :: _, h, _, _ => by simp at h
  | _ :: _, [], h, _, _ => by simp at h
  | a :: as, b :: bs, h, h1, h2 => by
    simp only [lessB] at h1 h2
    by_cases e : a = b
    · subst e
      simp only [if_true] at h1 h2
      rw [lessB_total (by simpa using h) h1 h2]
    · have e2 : ¬ b = a := fun h => e h.symm
      simp only [e, e2, if_false, decide_eq_false_iff_not] at h1 h2; omega
theorem lessB_snoc : ∀ {a b : List Nat} (i j : Nat), a.length = b.length → lessB (a ++ [i]) (b ++ [j]) = (lessB a b || (decide (a = b) && decide (i < j)))
  | [], [], i, j, _ => by
    by_cases e : i = j
    · subst e; simp [lessB]
    · simp [lessB, e]
  | [], _ :: _, _, _, h => by simp at h
  | _ :: _, [], _, _, h => by simp at h
  | a :: as, b :: bs, i, j, h => by
    have ih := lessB_snoc (a := as) (b := bs) i j (by simpa using h)
    simp only [List.cons_append, lessB]
    by_cases e : a = b
    · subst e; simp [ih]
    · simp [e]
/-- not less is a total preorder on lists of one length -/
theorem geB_trans {a b c : List Nat} (hab : a.length = b.length) (hbc : b.length = c.length) (h1 : lessB a b = false) (h2 : lessB b c = false) : lessB a c = false := by
  cases h : lessB a c with
  | false => rfl
  | true =>
    cases h3 : lessB c b with
    | true => rw [lessB_trans h h3] at h1; cases h1
    | false =>
      have := lessB_total hbc h2 h3
      subst this
      rw [h] at h1; cases h1
structure Cx where
  ds : List Dv
  cs : List Cp
  ks : List (List Nat)
  dr : List Nat
def Cx.cp (A : Cx) (i : Nat) : Cp := A.cs.getD i default
def Cx.dv (A : Cx) (d : Nat) : Dv := A.ds.getD d default
def Cx.kd (A : Cx) (d : Nat) : List Nat := A.ks.getD d []
def Cx.tgt (A : Cx) (i : Nat) (p : Pl) : Option Pl :=
  if (A.dv (A.cp i).dst.toNat).lo ≤ (p.2 : Int) + (A.cp i).shift ∧ (p.2 : Int) + (A.cp i).shift ≤ (A.dv (A.cp i).dst.toNat).hi then some ((A.cp i).dst.toNat, ((p.2 : Int) + (A.cp i).shift).toNat) else none
def takenL (c : Cp) (l : List Nat) : List Nat := if l.length = 0 ∨ c.only = 0 then l else if c.only = 1 then l.take 1 else l.drop (l.length - 1)
def Cx.start (A : Cx) (i : Nat) : List Pl := (takenL (A.cp i) (A.kd (A.cp i).src.toNat)).map fun k => ((A.cp i).src.toNat, k)
def Cx.goes (A : Cx) (i : Nat) (q : Pl) : Bool := (A.cp i).thr && decide ((A.cp i).src.toNat = q.1)
def Cx.nx (A : Cx) (cs : List Nat) (q : Pl) (i : Nat) : Bool := if cs = [] then decide (q ∈ A.start i) else A.goes i q
structure Cx.Ok (A : Cx) : Prop where
  nd : A.ds.length ≤ 6
  nk : A.ks.length = A.ds.length
  rng : ∀ d, d < A.ds.length → 0 ≤ (A.dv d).lo ∧ (A.dv d).lo ≤ (A.dv d).hi ∧ (A.dv d).hi ≤ 127
  key : ∀ d, ∀ k ∈ A.kd d, (A.dv d).lo ≤ (k : Int) ∧ (k : Int) ≤ (A.dv d).hi
  asc : ∀ d, (A.kd d).Pairwise (· < ·)
  dra : A.dr.Pairwise (· < ·)
  drn : ∀ i ∈ A.dr, i < A.cs.length
  src : ∀ i, i < A.cs.length → 0 ≤ (A.cp i).src ∧ (A.cp i).src < A.ds.length
  dst : ∀ i, i < A.cs.length → 0 ≤ (A.cp i).dst ∧ (A.cp i).dst < A.ds.length
  shf : ∀ i, i < A.cs.length → -12 ≤ (A.cp i).shift ∧ (A.cp i).shift ≤ 12
  thr : ∀ i, (A.cp i).thr = true → (A.cp i).only = 0
theorem takenL_sub {c : Cp} {l : List Nat} {k : Nat} (h : k ∈ takenL c l) : k ∈ l := by
  unfold takenL at h
  split at h
  · exact h
  · split at h
    · exact List.mem_of_mem_take h
    · exact List.mem_of_mem_drop h
inductive Path (A : Cx) : Pl → List Nat → Pl → Prop
  | played {p : Pl} : p.2 ∈ A.kd p.1 → Path A p [] p
  | step {p q q' : Pl} {i : Nat} {cs : List Nat} : Path A p cs q → i ∈ A.dr → A.nx cs q i = true → A.tgt i q = some q' → Path A p (cs ++ [i]) q'
def Best (A : Cx) (p : Pl) (cs : List Nat) (q : Pl) : Prop := Path A p cs q ∧ ∀ p' cs', Path A p' cs' q → cs.length < cs'.length ∨ (cs.length = cs'.length ∧ lessB cs' cs = false)
section
variable {A : Cx}
theorem Path.nil {p q : Pl} {cs : List Nat} (h : Path A p cs q) (e : cs = []) : p = q ∧ q.2 ∈ A.kd q.1 := by
  cases h with
  | played h => exact ⟨rfl, h⟩
  | step _ _ _ _ => simp at e
theorem Path.snoc {p q' : Pl} {cs : List Nat} {i : Nat} {cs0 : List Nat} (h : Path A p cs0 q') (e : cs0 = cs ++ [i]) : ∃ q, Path A p cs q ∧ i ∈ A.dr ∧ A.nx cs q i = true ∧ A.tgt i q = some q' := by
  cases h with
  | played h => simp at e
  | step h1 h2 h3 h4 =>
    obtain ⟨e1, e2⟩ := List.append_inj' e rfl
    simp only [List.cons.injEq, and_true] at e2
    subst e1; subst e2
    exact ⟨_, h1, h2, h3, h4⟩
theorem Cx.start_mem {i : Nat} {q : Pl} (h : q ∈ A.start i) : q.1 = (A.cp i).src.toNat ∧ q.2 ∈ A.kd q.1 := by
  unfold Cx.start at h
  obtain ⟨k, hk, rfl⟩ := List.mem_map.1 h
  exact ⟨rfl, takenL_sub hk⟩
theorem Cx.nx_src {cs : List Nat} {q : Pl} {i : Nat} (h : A.nx cs q i = true) : q.1 = (A.cp i).src.toNat := by
  unfold Cx.nx at h
  split at h
  · exact (Cx.start_mem (of_decide_eq_true h)).1
  · simp only [Cx.goes, Bool.and_eq_true, decide_eq_true_eq] at h; exact h.2.symm
theorem Cx.tgt_key {i : Nat} {q q' : Pl} (hA : A.Ok) (hi : i ∈ A.dr) (h : A.tgt i q = some q') : (q'.2 : Int) = q.2 + (A.cp i).shift ∧ q'.1 = (A.cp i).dst.toNat ∧ q'.1 < A.ds.length ∧ (A.dv q'.1).lo ≤ q'.2 ∧ (q'.2 : Int) ≤ (A.dv q'.1).hi := by
  unfold Cx.tgt at h
  split at h
  · rename_i h1
    cases h
    have h2 := hA.dst i (hA.drn i hi)
    have h4 := hA.rng (A.cp i).dst.toNat (by omega)
    refine ⟨by simp only; omega, rfl, by simp only; omega, by simp only; omega, by simp only; omega⟩
  · cases h
theorem Path.uniq (hA : A.Ok) {cs : List Nat} : ∀ (n : Nat) (p p' q : Pl) (cs : List Nat), cs.length = n → Path A p cs q → Path A p' cs q → p = p'
  | 0, p, p', q, cs, hn, h, h' => by
    have e : cs = [] := List.length_eq_zero_iff.1 hn
    rw [(h.nil e).1, (h'.nil e).1]
  | n + 1, p, p', q, cs, hn, h, h' => by
    have hne : cs ≠ [] := fun e => by simp [e] at hn
    have e := (List.dropLast_concat_getLast hne).symm
    obtain ⟨q1, a1, a2, a3, a4⟩ := h.snoc e
    obtain ⟨q2, b1, b2, b3, b4⟩ := h'.snoc e
    have k1 := Cx.tgt_key hA a2 a4
    have k2 := Cx.tgt_key hA b2 b4
    have s1 := Cx.nx_src a3
    have s2 := Cx.nx_src b3
    have : q1 = q2 := Prod.ext (by rw [s1, s2]) (by have := k1.1; have := k2.1; omega)
    subst this
    exact Path.uniq hA (cs := []) n p p' q1 _ (by simp [hn]) a1 b1
theorem Best.uniq (hA : A.Ok) {p p' q : Pl} {cs cs' : List Nat} (h : Best A p cs q) (h' : Best A p' cs' q) : p = p' ∧ cs = cs' := by
  have h1 := h.2 _ _ h'.1
  have h2 := h'.2 _ _ h.1
  have hl : cs.length = cs'.length := by omega
  have e : cs = cs' := lessB_total hl (by rcases h2 with h2 | h2; omega; exact h2.2) (by rcases h1 with h1 | h1; omega; exact h1.2)
  subst e
  exact ⟨Path.uniq hA (cs := []) _ _ _ _ _ rfl h.1 h'.1, rfl⟩
/-- a shorter chain to a place goes on as a longer one does -/
theorem Cx.nx_less (hA : A.Ok) {cs cs2 : List Nat} {p2 q : Pl} {i : Nat} (h : A.nx cs q i = true) (h2 : Path A p2 cs2 q) (hl : cs2.length ≤ cs.length) : A.nx cs2 q i = true := by
  unfold Cx.nx at h ⊢
  by_cases e : cs = []
  · subst e
    have : cs2 = [] := List.length_eq_zero_iff.1 (by simpa using hl)
    subst this
    exact h
  · simp only [e, if_false] at h
    by_cases e2 : cs2 = []
    · subst e2
      simp only [if_true, decide_eq_true_eq]
      simp only [Cx.goes, Bool.and_eq_true, decide_eq_true_eq] at h
      have := (h2.nil rfl).2
      unfold Cx.start takenL
      rw [if_pos (.inr (hA.thr i h.1))]
      refine List.mem_map.2 ⟨q.2, by rw [h.2]; exact this, ?_⟩
      rw [h.2]
    · simp only [e2, if_false]; exact h
abbrev Tab := Pl → Option (Pl × List Nat)
structure TabOk (A : Cx) (n : Nat) (T : Tab) : Prop where
  best : ∀ q v, T q = some v → Best A v.1 v.2 q ∧ v.2.length ≤ n
  all : ∀ p cs q, Path A p cs q → cs.length ≤ n → ∃ v, T q = some v
def addT (T : Tab) (q' : Pl) (v : Pl × List Nat) : Tab := fun q => if q = q' then (match T q' with
  | none => some v
  | some old => if old.2.length = v.2.length ∧ lessB v.2 old.2 = true then some v else some old) else T q
structure Proc (A : Cx) (n : Nat) (T0 T : Tab) (done : Pl → Nat → Prop) : Prop where
  keep : ∀ q v, T0 q = some v → T q = some v
  new : ∀ q' v, T q' = some v → T0 q' = some v ∨ (T0 q' = none ∧ ∃ q i v0, T0 q = some v0 ∧ v0.2.length = n ∧ i ∈ A.dr ∧ A.nx v0.2 q i = true ∧ A.tgt i q = some q' ∧ v = (v0.1, v0.2 ++ [i]))
  all : ∀ q i v0 q', done q i → T0 q = some v0 → v0.2.length = n → i ∈ A.dr → A.nx v0.2 q i = true → A.tgt i q = some q' → ∃ v, T q' = some v ∧ (T0 q' = none → lessB (v0.2 ++ [i]) v.2 = false)
theorem Proc.init {n : Nat} {T0 : Tab} : Proc A n T0 T0 (fun _ _ => False) := ⟨fun _ _ h => h, fun _ _ h => .inl h, fun _ _ _ _ h => h.elim⟩
theorem Proc.weak {n : Nat} {T0 T : Tab} {done done' : Pl → Nat → Prop} (h : Proc A n T0 T done) (hd : ∀ q i v0 q', done' q i → T0 q = some v0 → v0.2.length = n → i ∈ A.dr → A.nx v0.2 q i = true → A.tgt i q = some q' → done q i) : Proc A n T0 T done' :=
  ⟨h.keep, h.new, fun q i v0 q' a b c d e f => h.all q i v0 q' (hd q i v0 q' a b c d e f) b c d e f⟩
theorem Proc.len {n : Nat} {T0 T : Tab} {done : Pl → Nat → Prop} (h : Proc A n T0 T done) {q : Pl} {v : Pl × List Nat} (h0 : T0 q = none) (hv : T q = some v) : v.2.length = n + 1 := by
  rcases h.new q v hv with h1 | ⟨_, q1, i, v0, _, h2, _, _, _, rfl⟩
  · rw [h0] at h1; cases h1
  · simp [h2]
theorem Proc.add {n : Nat} {T0 T : Tab} {done : Pl → Nat → Prop} (h : Proc A n T0 T done) (h0 : TabOk A n T0) {q q' : Pl} {i : Nat} {v0 : Pl × List Nat} (hq : T0 q = some v0) (hn : v0.2.length = n) (hi : i ∈ A.dr) (hx : A.nx v0.2 q i = true) (ht : A.tgt i q = some q') :
    Proc A n T0 (addT T q' (v0.1, v0.2 ++ [i])) (fun a b => done a b ∨ (a = q ∧ b = i)) := by
  refine ⟨fun a v ha => ?_, fun a v ha => ?_, fun a b u0 a' hd hu hun hb hbx hbt => ?_⟩
  · have h1 := h.keep a v ha
    unfold addT
    split
    · rename_i e
      subst e
      rw [h1]
      have h2 := (h0.best a v ha).2
      simp only
      rw [if_neg]
      rintro ⟨h3, _⟩
      simp [hn] at h3
      omega
    · exact h1
  · unfold addT at ha
    split at ha
    · rename_i e
      subst e
      have hput : ∀ u, T a = none ∨ (∃ old, T a = some old ∧ old.2.length = n + 1) → some (v0.1, v0.2 ++ [i]) = some u → T0 a = some u ∨ (T0 a = none ∧ ∃ q i v0, T0 q = some v0 ∧ v0.2.length = n ∧ i ∈ A.dr ∧ A.nx v0.2 q i = true ∧ A.tgt i q = some a ∧ u = (v0.1, v0.2 ++ [i])) := by
        intro u hT hu
        refine .inr ⟨?_, q, i, v0, hq, hn, hi, hx, ht, (Option.some.inj hu).symm⟩
        cases h4 : T0 a with
        | none => rfl
        | some z =>
          have h5 := h.keep a z h4
          have h6 := (h0.best a z h4).2
          rcases hT with hT | ⟨old, hT, hl⟩
          · rw [h5] at hT; cases hT
          · rw [h5] at hT; cases hT; omega
      cases hT : T a with
      | none => rw [hT] at ha; exact hput v (.inl hT) ha
      | some old =>
        rw [hT] at ha
        simp only at ha
        split at ha
        · rename_i h3
          exact hput v (.inr ⟨old, hT, by simpa [hn] using h3.1⟩) ha
        · rw [← hT] at ha; exact h.new a v ha
    · exact h.new a v ha
  · have hbase : ∀ u, T a' = some u → (T0 a' = none → lessB (u0.2 ++ [b]) u.2 = false) → ∃ v, addT T q' (v0.1, v0.2 ++ [i]) a' = some v ∧ (T0 a' = none → lessB (u0.2 ++ [b]) v.2 = false) := by
      intro u hu1 hu2
      unfold addT
      split
      · rename_i e
        subst e
        rw [hu1]
        simp only
        split
        · rename_i h3
          refine ⟨_, rfl, fun hno => ?_⟩
          have hl := h.len hno hu1
          have h4 := hu2 hno
          -- new < u ≤ cand
          exact geB_trans (b := u.2) (by simp [hl, hun]) (by rw [h3.1]) h4 (lessB_asymm h3.2)
        · exact ⟨u, rfl, hu2⟩
      · exact ⟨u, hu1, hu2⟩
    rcases hd with hd | ⟨rfl, rfl⟩
    · obtain ⟨u, hu1, hu2⟩ := h.all a b u0 a' hd hu hun hb hbx hbt
      exact hbase u hu1 hu2
    · rw [hu] at hq; cases hq
      rw [hbt] at ht; cases ht
      cases hT : T q' with
      | none =>
        refine ⟨(v0.1, v0.2 ++ [b]), ?_, fun _ => lessB_irrefl _⟩
        unfold addT; rw [if_pos rfl, hT]
      | some old =>
        by_cases h3 : old.2.length = (v0.2 ++ [b]).length ∧ lessB (v0.2 ++ [b]) old.2 = true
        · refine ⟨(v0.1, v0.2 ++ [b]), ?_, fun _ => lessB_irrefl _⟩
          unfold addT; rw [if_pos rfl, hT]; simp only; rw [if_pos h3]
        · refine ⟨old, ?_, fun hno => ?_⟩
          · unfold addT; rw [if_pos rfl, hT]; simp only; rw [if_neg h3]
          have hl := h.len hno hT
          have h4 : old.2.length = (v0.2 ++ [b]).length := by simp [hl, hn]
          cases h5 : lessB (v0.2 ++ [b]) old.2 with
          | false => rfl
          | true => exact absurd ⟨h4, h5⟩ h3
theorem Proc.skip {n : Nat} {T0 T : Tab} {done : Pl → Nat → Prop} (h : Proc A n T0 T done) {q : Pl} {i : Nat} (ht : A.tgt i q = none) : Proc A n T0 T (fun a b => done a b ∨ (a = q ∧ b = i)) :=
  h.weak fun a b v0 a' hd _ _ _ _ hbt => by
    rcases hd with hd | ⟨rfl, rfl⟩
    · exact hd
    · rw [ht] at hbt; cases hbt
theorem Proc.finish (hA : A.Ok) {n : Nat} {T0 T : Tab} {done : Pl → Nat → Prop} (h0 : TabOk A n T0) (h : Proc A n T0 T done) (hd : ∀ q i v0 q', T0 q = some v0 → v0.2.length = n → i ∈ A.dr → A.nx v0.2 q i = true → A.tgt i q = some q' → done q i) : TabOk A (n + 1) T := by
  have compl : ∀ p cs q, Path A p cs q → cs.length ≤ n + 1 → ∃ v, T q = some v := fun p cs q' hp hl => by
    by_cases hl2 : cs.length ≤ n
    · obtain ⟨v, hv⟩ := h0.all p cs q' hp hl2
      exact ⟨v, h.keep q' v hv⟩
    · have hne : cs ≠ [] := fun e => by simp [e] at hl2
      have e := (List.dropLast_concat_getLast hne).symm
      obtain ⟨q, a1, a2, a3, a4⟩ := hp.snoc e
      obtain ⟨v0, hv0⟩ := h0.all _ _ _ a1 (by simp; omega)
      obtain ⟨b1, b2⟩ := h0.best q v0 hv0
      have b3 := b1.2 _ _ a1
      have b4 := Cx.nx_less hA a3 b1.1 (by omega)
      by_cases hln : v0.2.length = n
      · obtain ⟨v, hv, _⟩ := h.all q _ v0 q' (hd q _ v0 q' hv0 hln a2 b4 a4) hv0 hln a2 b4 a4
        exact ⟨v, hv⟩
      · obtain ⟨v, hv⟩ := h0.all _ _ _ (b1.1.step a2 b4 a4) (by simp; omega)
        exact ⟨v, h.keep q' v hv⟩
  refine ⟨fun q' v hv => ?_, compl⟩
  rcases h.new q' v hv with h1 | ⟨hno, q, i, v0, h1, h2, h3, h4, h5, rfl⟩
  · obtain ⟨b1, b2⟩ := h0.best q' v h1
    exact ⟨b1, by omega⟩
  · obtain ⟨b1, b2⟩ := h0.best q v0 h1
    refine ⟨⟨b1.1.step h3 h4 h5, fun p' cs' hp' => ?_⟩, by simp [h2]⟩
    have hgt : n < cs'.length := by
      rcases Nat.lt_or_ge n cs'.length with h6 | h6
      · exact h6
      · obtain ⟨u, hu⟩ := h0.all _ _ _ hp' h6
        rw [hno] at hu; cases hu
    simp only [List.length_append, List.length_cons, List.length_nil, h2]
    by_cases hl : n + 1 < cs'.length
    · exact .inl (by omega)
    · refine .inr ⟨by omega, ?_⟩
      have hne : cs' ≠ [] := fun e => by simp [e] at hgt
      have e := (List.dropLast_concat_getLast hne).symm
      obtain ⟨q2, a1, a2, a3, a4⟩ := hp'.snoc e
      obtain ⟨u0, hu0⟩ := h0.all _ _ _ a1 (by simp; omega)
      obtain ⟨c1, c2⟩ := h0.best q2 u0 hu0
      have c3 := c1.2 _ _ a1
      have c4 := Cx.nx_less hA a3 c1.1 (by omega)
      have hdl : cs'.dropLast.length = n := by simp; omega
      have hun : u0.2.length = n := by
        rcases Nat.lt_or_ge u0.2.length n with h6 | h6
        · obtain ⟨z, hz⟩ := h0.all _ _ _ (c1.1.step a2 c4 a4) (by simp; omega)
          rw [hno] at hz; cases hz
        · omega
      obtain ⟨z, hz, hz2⟩ := h.all q2 _ u0 q' (hd q2 _ u0 q' hu0 hun a2 c4 a4) hu0 hun a2 c4 a4
      rw [hv] at hz; cases hz
      have h6 := hz2 hno
      have h7 : lessB cs' (u0.2 ++ [cs'.getLast hne]) = false := by
        have h8 := lessB_snoc (a := cs'.dropLast) (b := u0.2) (cs'.getLast hne) (cs'.getLast hne) (by rw [hdl, hun])
        rw [← e] at h8
        rw [h8]
        rcases c3 with c3 | c3
        · omega
        · simp [c3.2]
      exact geB_trans (b := u0.2 ++ [cs'.getLast hne]) (by simp [hun]; omega) (by simp [hun, h2]) h7 h6
/-- no place has a chain of n couplers: no place has a longer one -/
theorem TabOk.done (hA : A.Ok) {n : Nat} {T : Tab} (h : TabOk A n T) (hn : ∀ q v, T q = some v → v.2.length ≠ n) : ∀ (m : Nat) (p : Pl) (cs : List Nat) (q : Pl), cs.length = m → Path A p cs q → ∃ v, T q = some v
  | 0, p, cs, q, hm, hp => h.all p cs q hp (by omega)
  | m + 1, p, cs, q, hm, hp => by
    have hne : cs ≠ [] := fun e => by simp [e] at hm
    have e := (List.dropLast_concat_getLast hne).symm
    obtain ⟨q2, a1, a2, a3, a4⟩ := hp.snoc e
    obtain ⟨u0, hu0⟩ := TabOk.done hA h hn m p _ q2 (by simp [hm]) a1
    obtain ⟨c1, c2⟩ := h.best q2 u0 hu0
    have c3 := c1.2 _ _ a1
    have c4 := Cx.nx_less hA a3 c1.1 (by omega)
    have := hn q2 u0 hu0
    exact h.all _ _ _ (c1.1.step a2 c4 a4) (by simp; omega)
/-- the chains of all that acts -/
structure Chains (A : Cx) (T : Tab) : Prop where
  best : ∀ q v, T q = some v → Best A v.1 v.2 q
  all : ∀ p cs q, Path A p cs q → ∃ v, T q = some v
theorem TabOk.chains (hA : A.Ok) {n : Nat} {T : Tab} (h : TabOk A n T) (hn : ∀ q v, T q = some v → v.2.length ≠ n) : Chains A T :=
  ⟨fun q v hv => (h.best q v hv).1, fun p cs q hp => h.done hA hn _ p cs q rfl hp⟩
theorem Chains.eq (hA : A.Ok) {T T' : Tab} (h : Chains A T) (h' : Chains A T') : T = T' := by
  funext q
  cases hT : T q with
  | none =>
    cases hT' : T' q with
    | none => rfl
    | some v =>
      obtain ⟨u, hu⟩ := h.all _ _ _ (h'.best q v hT').1
      rw [hT] at hu; cases hu
  | some v =>
    obtain ⟨u, hu⟩ := h'.all _ _ _ (h.best q v hT).1
    have := (h.best q v hT).uniq hA (h'.best q u hu)
    rw [hu]
    exact congrArg some (Prod.ext this.1 this.2)
theorem Chains.has {T : Tab} (h : Chains A T) (q : Pl) : (∃ v, T q = some v) ↔ ∃ p cs, Path A p cs q :=
  ⟨fun ⟨v, hv⟩ => ⟨_, _, (h.best q v hv).1⟩, fun ⟨p, cs, hp⟩ => h.all p cs q hp⟩
theorem Path.rng (hA : A.Ok) {p q : Pl} {cs : List Nat} (h : Path A p cs q) : (A.dv q.1).lo ≤ q.2 ∧ (q.2 : Int) ≤ (A.dv q.1).hi := by
  cases h with
  | played h => exact hA.key _ _ h
  | step h1 h2 h3 h4 => have := Cx.tgt_key hA h2 h4; exact ⟨this.2.2.2.1, this.2.2.2.2⟩
theorem kd_lt (hA : A.Ok) {d k : Nat} (h : k ∈ A.kd d) : d < A.ds.length := by
  rcases Nat.lt_or_ge d A.ds.length with h1 | h1
  · exact h1
  · unfold Cx.kd at h
    rw [List.getD_eq_getElem?_getD, List.getElem?_eq_none (by rw [hA.nk]; exact h1)] at h
    simp at h
theorem Path.lt (hA : A.Ok) {p q : Pl} {cs : List Nat} (h : Path A p cs q) : q.1 < A.ds.length := by
  cases h with
  | played h => exact kd_lt hA h
  | step h1 h2 h3 h4 => have := Cx.tgt_key hA h2 h4; exact this.2.2.1
theorem Path.key (hA : A.Ok) {p q : Pl} {cs : List Nat} (h : Path A p cs q) : q.2 < 128 := by
  have h1 := h.rng hA
  have h2 := hA.rng _ (h.lt hA)
  omega
end
end Go.Sn
namespace Go.Sn
/-! # What acts, as the program finds it: groups of places, in the order of their chains -/
structure En where
  q : Pl
  i : Int
  p : Pl
  org : Pl
  ch : List Nat
  deriving Inhabited
structure AS where
  sets : List Nat
  tb : List En
  deriving Inhabited
def tabOf (l : List En) : Tab := fun q => (l.find? fun e => decide (e.q = q)).map fun e => (e.org, e.ch)
def hasS (sets : List Nat) (q : Pl) : Bool := (sets.getD q.1 0).testBit q.2
def addSet (sets : List Nat) (q : Pl) : List Nat := sets.set q.1 (sets.getD q.1 0 ||| 2 ^ q.2)
def enOf (l : List En) (q : Pl) (i : Nat) (p : Pl) : En := match tabOf l p with
  | some v => ⟨q, i, p, v.1, v.2 ++ [i]⟩
  | none => ⟨q, i, p, p, [i]⟩
def stepR (A : Cx) (i : Nat) (x : AS × List Pl) (p : Pl) : AS × List Pl := match A.tgt i p with
  | some q => if hasS x.1.sets q then x else (⟨addSet x.1.sets q, x.1.tb ++ [enOf x.1.tb q i p]⟩, x.2 ++ [q])
  | none => x
def reachP (A : Cx) (i : Nat) (l : List Pl) (st : AS) : AS × List Pl := l.foldl (stepR A i) (st, [])
abbrev GS := AS × List (List Pl)
def goesL (A : Cx) (i : Nat) (l : List Pl) : Bool := match l with
  | [] => false
  | q :: _ => A.goes i q
def nextC (A : Cx) (l : List Pl) (x : GS) (i : Nat) : GS := if goesL A i l then ((reachP A i l x.1).1, x.2 ++ [(reachP A i l x.1).2]) else x
def nextL (A : Cx) (x : GS) (l : List Pl) : GS := A.dr.foldl (nextC A l) x
def nextG (A : Cx) (x : GS) : GS := ((x.2.foldl (nextL A) (x.1, [])).1, (x.2.foldl (nextL A) (x.1, [])).2.filter fun l => decide (l ≠ []))
section
variable {A : Cx}
theorem tabOf_snoc (l : List En) (e : En) (q : Pl) : tabOf (l ++ [e]) q = match tabOf l q with | some v => some v | none => if e.q = q then some (e.org, e.ch) else none := by
  unfold tabOf
  rw [List.find?_append]
  cases h : l.find? (fun e => decide (e.q = q)) with
  | some v => simp
  | none =>
    simp only [Option.none_or, Option.map_none, List.find?_cons, List.find?_nil]
    by_cases h2 : e.q = q <;> simp [h2]
structure SetOk (A : Cx) (st : AS) : Prop where
  len : st.sets.length = A.ds.length
  has : ∀ q : Pl, q.1 < A.ds.length → (hasS st.sets q = true ↔ ∃ v, tabOf st.tb q = some v)
  lt : ∀ x ∈ st.sets, x < 2 ^ 128
  rng : ∀ q v, tabOf st.tb q = some v → q.1 < A.ds.length ∧ q.2 < 128
theorem or_lt128 {x k : Nat} (hx : x < 2 ^ 128) (hk : k < 128) : x ||| 2 ^ k < 2 ^ 128 := Nat.or_lt_two_pow hx (Nat.pow_lt_pow_right (by decide) hk)
theorem getD_lt {sets : List Nat} (h : ∀ x ∈ sets, x < 2 ^ 128) (d : Nat) : sets.getD d 0 < 2 ^ 128 := by
  rcases Nat.lt_or_ge d sets.length with h1 | h1
  · rw [List.getD_eq_getElem?_getD, List.getElem?_eq_getElem h1]; exact h _ (List.getElem_mem h1)
  · rw [List.getD_eq_getElem?_getD, List.getElem?_eq_none h1]; exact Nat.two_pow_pos 128
theorem hasS_add {sets : List Nat} {q q' : Pl} (h : q.1 < sets.length) : hasS (addSet sets q) q' = (hasS sets q' || decide (q' = q)) := by
  unfold hasS addSet
  rw [Gv.getD_set _ _ _ _ h]
  by_cases e : q.1 = q'.1
  · rw [if_pos e, ← e, Nat.testBit_or, Nat.testBit_two_pow]
    by_cases e2 : q.2 = q'.2
    · have : q' = q := Prod.ext e.symm e2.symm
      simp [this]
    · have : ¬ q' = q := fun h => e2 (by rw [h])
      simp [this, e2]
  · have : ¬ q' = q := fun h => e (by rw [h])
    simp [e, this]
theorem SetOk.put {st : AS} (h : SetOk A st) {q : Pl} (hq : q.1 < A.ds.length) (hk : q.2 < 128) {e : En} (he : e.q = q) : SetOk A ⟨addSet st.sets q, st.tb ++ [e]⟩ := by
  refine ⟨by simp [addSet, h.len], fun q' hq' => ?_, fun x hx => ?_, fun q' v hv => ?_⟩
  · simp only
    rw [hasS_add (by rw [h.len]; exact hq), tabOf_snoc, he, Bool.or_eq_true, h.has q' hq', decide_eq_true_eq]
    cases h2 : tabOf st.tb q' with
    | some v => simp
    | none =>
      by_cases h3 : q' = q
      · subst h3; simp
      · have h4 : ¬ q = q' := fun h => h3 h.symm
        simp [h3, h4]
  · simp only [addSet] at hx
    rcases List.mem_or_eq_of_mem_set hx with h1 | h1
    · exact h.lt x h1
    · rw [h1]; exact or_lt128 (getD_lt h.lt _) hk
  · simp only at hv
    rw [tabOf_snoc] at hv
    cases h2 : tabOf st.tb q' with
    | some u => exact h.rng q' u h2
    | none =>
      rw [h2] at hv
      simp only [he] at hv
      split at hv
      · rename_i h3; subst h3; exact ⟨hq, hk⟩
      · cases hv
/-- one coupler from places with one chain -/
structure Rch (A : Cx) (n : Nat) (T0 : Tab) (cur : List Nat) (st : AS) (done : Pl → Nat → Prop) : Prop where
  set : SetOk A st
  proc : Proc A n T0 (tabOf st.tb) done
  cur : ∀ q v, tabOf st.tb q = some v → T0 q = none → v.2 = cur ∨ lessB v.2 cur = true
theorem stepR_ok (hA : A.Ok) {n : Nat} {T0 : Tab} (h0 : TabOk A n T0) {i : Nat} {cs : List Nat} {st : AS} {out : List Pl} {done : Pl → Nat → Prop} {p : Pl} {v0 : Pl × List Nat} (hn : cs.length = n) (hi : i ∈ A.dr) (hp : T0 p = some v0) (hv0 : v0.2 = cs) (hx : A.nx cs p i = true)
    (h : Rch A n T0 (cs ++ [i]) st done) (ho : ∀ q ∈ out, T0 q = none ∧ (∃ v, tabOf st.tb q = some v ∧ v.2 = cs ++ [i]) ∧ q.1 = (A.cp i).dst.toNat) :
    let r := stepR A i (st, out) p
    Rch A n T0 (cs ++ [i]) r.1 (fun a b => done a b ∨ (a = p ∧ b = i)) ∧ (∀ q ∈ r.2, T0 q = none ∧ (∃ v, tabOf r.1.tb q = some v ∧ v.2 = cs ++ [i]) ∧ q.1 = (A.cp i).dst.toNat) ∧ (∀ q v, tabOf st.tb q = some v → tabOf r.1.tb q = some v) ∧ (∀ q v, tabOf r.1.tb q = some v → tabOf st.tb q = some v ∨ q ∈ r.2) ∧ (∀ q ∈ out, q ∈ r.2) := by
  subst hv0
  simp only [stepR]
  cases ht : A.tgt i p with
  | none => exact ⟨⟨h.set, h.proc.skip ht, h.cur⟩, ho, fun _ _ h => h, fun _ _ h => .inl h, fun _ h => h⟩
  | some q =>
    simp only
    have htk := Cx.tgt_key hA hi ht
    have hrq := hA.rng q.1 htk.2.2.1
    by_cases hh : hasS st.sets q = true
    · rw [if_pos hh]
      obtain ⟨old, hold⟩ := (h.set.has q htk.2.2.1).1 hh
      have hadd := h.proc.add h0 hp hn hi hx ht
      have e : addT (tabOf st.tb) q (v0.1, v0.2 ++ [i]) = tabOf st.tb := by
        funext a
        unfold addT
        split
        · rename_i e; subst e
          rw [hold]
          simp only
          rw [if_neg]
          rintro ⟨h1, h2⟩
          have hno : T0 a = none := by
            cases h3 : T0 a with
            | none => rfl
            | some z =>
              have h4 := h.proc.keep a z h3
              rw [hold] at h4; cases h4
              have := (h0.best a old h3).2
              simp [hn] at h1; omega
          rcases h.cur a old hold hno with h4 | h4
          · rw [h4, lessB_irrefl] at h2; cases h2
          · rw [lessB_asymm h4] at h2; cases h2
        · rfl
      rw [e] at hadd
      exact ⟨⟨h.set, hadd, h.cur⟩, ho, fun _ _ h => h, fun _ _ h => .inl h, fun _ h => h⟩
    · rw [if_neg hh]
      have hnone : tabOf st.tb q = none := by
        cases h2 : tabOf st.tb q with
        | none => rfl
        | some v => exact absurd ((h.set.has q htk.2.2.1).2 ⟨v, h2⟩) hh
      have hpt : tabOf st.tb p = some v0 := h.proc.keep p v0 hp
      have een : enOf st.tb q i p = ⟨q, i, p, v0.1, v0.2 ++ [i]⟩ := by unfold enOf; rw [hpt]
      have etab : tabOf (st.tb ++ [enOf st.tb q i p]) = addT (tabOf st.tb) q (v0.1, v0.2 ++ [i]) := by
        funext a
        rw [tabOf_snoc, een]
        unfold addT
        by_cases h2 : a = q
        · subst h2; simp [hnone]
        · have h3 : ¬ q = a := fun h => h2 h.symm
          simp only [h2, h3, if_false]
          cases tabOf st.tb a <;> rfl
      have hadd := h.proc.add h0 hp hn hi hx ht
      have hq0 : T0 q = none := by
        cases h3 : T0 q with
        | none => rfl
        | some z => rw [h.proc.keep q z h3] at hnone; cases hnone
      have key : ∀ a v, tabOf (st.tb ++ [enOf st.tb q i p]) a = some v → tabOf st.tb a = some v ∨ (a = q ∧ v = (v0.1, v0.2 ++ [i])) := fun a v ha => by
        rw [tabOf_snoc, een] at ha
        cases h2 : tabOf st.tb a with
        | some u => rw [h2] at ha; exact .inl ha
        | none =>
          rw [h2] at ha
          simp only at ha
          split at ha
          · rename_i h3; cases ha; exact .inr ⟨h3.symm, rfl⟩
          · cases ha
      have keep : ∀ a v, tabOf st.tb a = some v → tabOf (st.tb ++ [enOf st.tb q i p]) a = some v := fun a v ha => by
        rw [tabOf_snoc, ha]
      refine ⟨⟨h.set.put htk.2.2.1 (by omega) (by rw [een]), by rw [etab]; exact hadd, fun a v ha hno => ?_⟩, fun a ha => ?_, keep, fun a v ha => ?_, fun a ha => List.mem_append_left _ ha⟩
      · rcases key a v ha with h2 | ⟨rfl, rfl⟩
        · exact h.cur a v h2 hno
        · exact .inl rfl
      · rcases List.mem_append.1 ha with h2 | h2
        · obtain ⟨o1, ⟨v, o2, o3⟩, o4⟩ := ho a h2
          exact ⟨o1, ⟨v, keep a v o2, o3⟩, o4⟩
        · have := List.mem_singleton.1 h2
          subst this
          refine ⟨hq0, ⟨(v0.1, v0.2 ++ [i]), ?_, rfl⟩, htk.2.1⟩
          show tabOf (st.tb ++ [enOf st.tb a i p]) a = _
          rw [tabOf_snoc, hnone, een]; simp
      · rcases key a v ha with h2 | ⟨rfl, rfl⟩
        · exact .inl h2
        · exact .inr (by simp)
theorem reach_fold (hA : A.Ok) {n : Nat} {T0 : Tab} (h0 : TabOk A n T0) {i : Nat} {cs : List Nat} (hn : cs.length = n) (hi : i ∈ A.dr) :
    ∀ (l : List Pl) (st : AS) (out : List Pl) (done : Pl → Nat → Prop), (∀ p ∈ l, (∃ v0, T0 p = some v0 ∧ v0.2 = cs) ∧ A.nx cs p i = true) → Rch A n T0 (cs ++ [i]) st done → (∀ q ∈ out, T0 q = none ∧ (∃ v, tabOf st.tb q = some v ∧ v.2 = cs ++ [i]) ∧ q.1 = (A.cp i).dst.toNat) →
      let r := l.foldl (stepR A i) (st, out)
      Rch A n T0 (cs ++ [i]) r.1 (fun a b => done a b ∨ (a ∈ l ∧ b = i)) ∧ (∀ q ∈ r.2, T0 q = none ∧ (∃ v, tabOf r.1.tb q = some v ∧ v.2 = cs ++ [i]) ∧ q.1 = (A.cp i).dst.toNat) ∧ (∀ q v, tabOf st.tb q = some v → tabOf r.1.tb q = some v) ∧ (∀ q v, tabOf r.1.tb q = some v → tabOf st.tb q = some v ∨ q ∈ r.2) ∧ (∀ q ∈ out, q ∈ r.2)
  | [], st, out, done, hl, h, ho => ⟨⟨h.set, h.proc.weak (fun q i v0 q' hd _ _ _ _ _ => by simpa using hd), h.cur⟩, ho, fun _ _ h => h, fun _ _ h => .inl h, fun _ h => h⟩
  | p :: l, st, out, done, hl, h, ho => by
    obtain ⟨⟨v0, hp, hv⟩, hx⟩ := hl p List.mem_cons_self
    obtain ⟨a1, a2, a3, a4, a5⟩ := stepR_ok hA h0 hn hi hp hv hx h ho
    obtain ⟨b1, b2, b3, b4, b5⟩ := reach_fold hA h0 hn hi l (stepR A i (st, out) p).1 (stepR A i (st, out) p).2 _ (fun p' h' => hl p' (List.mem_cons_of_mem _ h')) a1 a2
    simp only [List.foldl_cons]
    refine ⟨⟨b1.set, b1.proc.weak (fun q j v0 q' hd _ _ _ _ _ => ?_), b1.cur⟩, b2, fun q v hq => b3 q v (a3 q v hq), fun q v hq => ?_, fun q hq => b5 q (a5 q hq)⟩
    · rcases hd with hd | ⟨hd, rfl⟩
      · exact .inl (.inl hd)
      · rcases List.mem_cons.1 hd with rfl | hd
        · exact .inl (.inr ⟨rfl, rfl⟩)
        · exact .inr ⟨hd, rfl⟩
    · rcases b4 q v hq with h2 | h2
      · rcases a4 q v h2 with h3 | h3
        · exact .inl h3
        · exact .inr (b5 q h3)
      · exact .inr h2
/-- groups so far, with their chains -/
structure Grp (A : Cx) (n : Nat) (T0 : Tab) (x : GS) (L : List (List Nat × List Pl)) (done : Pl → Nat → Prop) : Prop where
  set : SetOk A x.1
  proc : Proc A n T0 (tabOf x.1.tb) done
  eq : x.2 = L.map Prod.snd
  len : ∀ g ∈ L, g.1.length = n + 1
  asc : L.Pairwise fun a b => lessB a.1 b.1 = true
  mem : ∀ g ∈ L, ∀ q ∈ g.2, T0 q = none ∧ ∃ v, tabOf x.1.tb q = some v ∧ v.2 = g.1
  all : ∀ q v, tabOf x.1.tb q = some v → T0 q = none → ∃ g ∈ L, q ∈ g.2
  one : ∀ g ∈ L, ∀ q ∈ g.2, ∀ q' ∈ g.2, q.1 = q'.1
theorem Grp.reach (hA : A.Ok) {n : Nat} {T0 : Tab} (h0 : TabOk A n T0) {i : Nat} {cs : List Nat} (hn : cs.length = n) (hi : i ∈ A.dr) {x : GS} {L : List (List Nat × List Pl)} {done : Pl → Nat → Prop} (h : Grp A n T0 x L done) {l : List Pl}
    (hl : ∀ p ∈ l, (∃ v0, T0 p = some v0 ∧ v0.2 = cs) ∧ A.nx cs p i = true) (hcur : ∀ g ∈ L, lessB g.1 (cs ++ [i]) = true) :
    Grp A n T0 ((reachP A i l x.1).1, x.2 ++ [(reachP A i l x.1).2]) (L ++ [(cs ++ [i], (reachP A i l x.1).2)]) (fun a b => done a b ∨ (a ∈ l ∧ b = i)) := by
  have hr : Rch A n T0 (cs ++ [i]) x.1 done := ⟨h.set, h.proc, fun q v hv hno => by
    obtain ⟨g, hg, hq⟩ := h.all q v hv hno
    obtain ⟨_, u, hu, hue⟩ := h.mem g hg q hq
    rw [hv] at hu; cases hu
    rw [hue]; exact .inr (hcur g hg)⟩
  obtain ⟨b1, b2, b3, b4, b5⟩ := reach_fold hA h0 hn hi l x.1 [] done hl hr (by simp)
  refine ⟨b1.set, b1.proc, by simp [h.eq, reachP], ?_, ?_, ?_, ?_, ?_⟩
  · intro g hg
    rcases List.mem_append.1 hg with hg | hg
    · exact h.len g hg
    · rw [List.mem_singleton.1 hg]; simp [hn]
  · rw [List.pairwise_append]
    refine ⟨h.asc, by simp, fun a ha b hb => ?_⟩
    rw [List.mem_singleton.1 hb]; exact hcur a ha
  · intro g hg q hq
    rcases List.mem_append.1 hg with hg | hg
    · obtain ⟨m1, v, m2, m3⟩ := h.mem g hg q hq
      exact ⟨m1, v, b3 q v m2, m3⟩
    · rw [List.mem_singleton.1 hg] at hq ⊢
      exact ⟨(b2 q hq).1, (b2 q hq).2.1⟩
  · intro q v hv hno
    rcases b4 q v hv with h2 | h2
    · obtain ⟨g, hg, hq⟩ := h.all q v h2 hno
      exact ⟨g, List.mem_append_left _ hg, hq⟩
    · exact ⟨_, List.mem_append_right _ (List.mem_singleton.2 rfl), h2⟩
  · intro g hg q hq q' hq'
    rcases List.mem_append.1 hg with hg | hg
    · exact h.one g hg q hq q' hq'
    · rw [List.mem_singleton.1 hg] at hq hq'
      rw [(b2 q hq).2.2, (b2 q' hq').2.2]
theorem Grp.weak {n : Nat} {T0 : Tab} {x : GS} {L : List (List Nat × List Pl)} {done done' : Pl → Nat → Prop} (h : Grp A n T0 x L done) (hd : ∀ q i v0 q', done' q i → T0 q = some v0 → v0.2.length = n → i ∈ A.dr → A.nx v0.2 q i = true → A.tgt i q = some q' → done q i) : Grp A n T0 x L done' :=
  ⟨h.set, h.proc.weak hd, h.eq, h.len, h.asc, h.mem, h.all, h.one⟩
theorem lessB_init {a b : List Nat} (hl : a.length = b.length) {i j : Nat} (h : lessB a b = true) : lessB (a ++ [i]) (b ++ [j]) = true := by rw [lessB_snoc _ _ hl, h]; rfl
theorem lessB_last {a : List Nat} {i j : Nat} (h : i < j) : lessB (a ++ [i]) (a ++ [j]) = true := by rw [lessB_snoc _ _ rfl]; simp [h]
/-- the couplers from one group -/
theorem next_inner (hA : A.Ok) {n : Nat} (hn1 : n ≠ 0) {T0 : Tab} (h0 : TabOk A n T0) {cs : List Nat} (hn : cs.length = n) {l : List Pl} (hl : ∀ p ∈ l, (∃ v0, T0 p = some v0 ∧ v0.2 = cs)) (hone : ∀ q ∈ l, ∀ q' ∈ l, q.1 = q'.1) :
    ∀ (dr : List Nat) (x : GS) (L : List (List Nat × List Pl)) (done : Pl → Nat → Prop), (∀ i ∈ dr, i ∈ A.dr) → dr.Pairwise (· < ·) → Grp A n T0 x L done → (∀ i ∈ dr, ∀ g ∈ L, lessB g.1 (cs ++ [i]) = true) →
      ∃ L' : List (List Nat × List Pl), Grp A n T0 (dr.foldl (nextC A l) x) L' (fun a b => done a b ∨ (a ∈ l ∧ b ∈ dr)) ∧ (∀ g ∈ L', g ∈ L ∨ ∃ i, g.1 = cs ++ [i])
  | [], x, L, done, _, _, h, _ => ⟨L, h.weak (fun q i v0 q' hd _ _ _ _ _ => by simpa using hd), fun g hg => .inl hg⟩
  | i :: dr, x, L, done, hd, hp, h, hc => by
    have hi := hd i List.mem_cons_self
    have hp' := List.pairwise_cons.1 hp
    have hcs : cs ≠ [] := fun e => hn1 (by rw [← hn, e]; rfl)
    by_cases hg : goesL A i l = true
    · have hall : ∀ p ∈ l, (∃ v0, T0 p = some v0 ∧ v0.2 = cs) ∧ A.nx cs p i = true := fun p hp => ⟨hl p hp, by
        unfold Cx.nx
        rw [if_neg hcs]
        cases l with
        | nil => simp at hp
        | cons q l =>
          simp only [goesL] at hg
          have := hone p hp q List.mem_cons_self
          unfold Cx.goes at hg ⊢
          rw [this]; exact hg⟩
      have h1 := h.reach hA h0 hn hi hall (fun g hg => hc i List.mem_cons_self g hg)
      obtain ⟨L', h2, h3⟩ := next_inner hA hn1 h0 hn hl hone dr _ _ _ (fun j hj => hd j (List.mem_cons_of_mem _ hj)) hp'.2 h1 (fun j hj g hg => by
        rcases List.mem_append.1 hg with hg | hg
        · exact hc j (List.mem_cons_of_mem _ hj) g hg
        · rw [List.mem_singleton.1 hg]; exact lessB_last (hp'.1 j hj))
      refine ⟨L', ?_, fun g hg => ?_⟩
      · rw [List.foldl_cons]
        have e : nextC A l x i = ((reachP A i l x.1).1, x.2 ++ [(reachP A i l x.1).2]) := by unfold nextC; rw [if_pos hg]
        rw [e]
        refine h2.weak fun q j v0 q' hd _ _ _ _ _ => ?_
        rcases hd with hz | ⟨hz, hj⟩
        · exact .inl (.inl hz)
        · rcases List.mem_cons.1 hj with rfl | hj
          · exact .inl (.inr ⟨hz, rfl⟩)
          · exact .inr ⟨hz, hj⟩
      · rcases h3 g hg with h4 | h4
        · rcases List.mem_append.1 h4 with h4 | h4
          · exact .inl h4
          · exact .inr ⟨i, by rw [List.mem_singleton.1 h4]⟩
        · exact .inr h4
    · have e : nextC A l x i = x := by unfold nextC; rw [if_neg hg]
      obtain ⟨L', h2, h3⟩ := next_inner hA hn1 h0 hn hl hone dr x L done (fun j hj => hd j (List.mem_cons_of_mem _ hj)) hp'.2 h (fun j hj g hg => hc j (List.mem_cons_of_mem _ hj) g hg)
      refine ⟨L', ?_, h3⟩
      rw [List.foldl_cons, e]
      refine h2.weak fun q j v0 q' hd hq hl0 _ hx _ => ?_
      rcases hd with hz | ⟨hz, hj⟩
      · exact .inl hz
      · rcases List.mem_cons.1 hj with rfl | hj
        · exfalso
          apply hg
          obtain ⟨u, hu, hue⟩ := hl q hz
          rw [hq] at hu; cases hu
          unfold Cx.nx at hx
          rw [if_neg (by rw [hue]; exact hcs)] at hx
          cases l with
          | nil => simp at hz
          | cons q2 l =>
            simp only [goesL]
            have := hone q hz q2 List.mem_cons_self
            unfold Cx.goes at hx ⊢
            rw [← this]; exact hx
        · exact .inr ⟨hz, hj⟩
theorem next_outer (hA : A.Ok) {n : Nat} (hn1 : n ≠ 0) {T0 : Tab} (h0 : TabOk A n T0) :
    ∀ (G : List (List Nat × List Pl)) (x : GS) (L : List (List Nat × List Pl)) (done : Pl → Nat → Prop), (∀ g ∈ G, g.1.length = n) → G.Pairwise (fun a b => lessB a.1 b.1 = true) → (∀ g ∈ G, ∀ p ∈ g.2, ∃ v0, T0 p = some v0 ∧ v0.2 = g.1) → (∀ g ∈ G, ∀ q ∈ g.2, ∀ q' ∈ g.2, q.1 = q'.1) →
      Grp A n T0 x L done → (∀ g ∈ G, ∀ c ∈ L, ∀ i, lessB c.1 (g.1 ++ [i]) = true) →
      ∃ L' : List (List Nat × List Pl), Grp A n T0 ((G.map Prod.snd).foldl (nextL A) x) L' (fun a b => done a b ∨ ((∃ g ∈ G, a ∈ g.2) ∧ b ∈ A.dr))
  | [], x, L, done, _, _, _, _, h, _ => ⟨L, h.weak (fun q i v0 q' hd _ _ _ _ _ => by simpa using hd)⟩
  | g :: G, x, L, done, h1, h2, h3, h4, h, h5 => by
    have h2' := List.pairwise_cons.1 h2
    obtain ⟨L1, a1, a2⟩ := next_inner hA hn1 h0 (h1 g List.mem_cons_self) (h3 g List.mem_cons_self) (h4 g List.mem_cons_self) A.dr x L done (fun _ h => h) hA.dra h (fun i _ c hc => h5 g List.mem_cons_self c hc i)
    obtain ⟨L2, b1⟩ := next_outer hA hn1 h0 G _ L1 _ (fun c hc => h1 c (List.mem_cons_of_mem _ hc)) h2'.2 (fun c hc => h3 c (List.mem_cons_of_mem _ hc)) (fun c hc => h4 c (List.mem_cons_of_mem _ hc)) a1 (fun c hc d hd j => by
      rcases a2 d hd with h6 | ⟨i, h6⟩
      · exact h5 c (List.mem_cons_of_mem _ hc) d h6 j
      · rw [h6]; exact lessB_init (by rw [h1 g List.mem_cons_self, h1 c (List.mem_cons_of_mem _ hc)]) (h2'.1 c hc))
    refine ⟨L2, b1.weak fun q i v0 q' hd _ _ _ _ _ => ?_⟩
    rcases hd with hd | ⟨⟨c, hc, hq⟩, hi⟩
    · exact .inl (.inl hd)
    · rcases List.mem_cons.1 hc with rfl | hc
      · exact .inl (.inr ⟨hq, hi⟩)
      · exact .inr ⟨⟨c, hc, hq⟩, hi⟩
/-- what a level leaves -/
structure Lv (A : Cx) (n : Nat) (x : GS) : Prop where
  ok : TabOk A n (tabOf x.1.tb)
  set : SetOk A x.1
  grp : ∃ L : List (List Nat × List Pl), x.2 = L.map Prod.snd ∧ (∀ g ∈ L, g.1.length = n) ∧ L.Pairwise (fun a b => lessB a.1 b.1 = true) ∧ (∀ g ∈ L, ∀ q ∈ g.2, ∃ v, tabOf x.1.tb q = some v ∧ v.2 = g.1) ∧ (∀ q v, tabOf x.1.tb q = some v → v.2.length = n → ∃ g ∈ L, q ∈ g.2) ∧ (∀ g ∈ L, ∀ q ∈ g.2, ∀ q' ∈ g.2, q.1 = q'.1)
theorem Grp.lv (hA : A.Ok) {n : Nat} {T0 : Tab} (h0 : TabOk A n T0) {x : GS} {L : List (List Nat × List Pl)} {done : Pl → Nat → Prop} (h : Grp A n T0 x L done) (hd : ∀ q i v0 q', T0 q = some v0 → v0.2.length = n → i ∈ A.dr → A.nx v0.2 q i = true → A.tgt i q = some q' → done q i) : Lv A (n + 1) x := by
  have hf := h.proc.finish hA h0 hd
  refine ⟨hf, h.set, L, h.eq, h.len, h.asc, fun g hg q hq => (h.mem g hg q hq).2, fun q v hv hl => ?_, h.one⟩
  refine h.all q v hv ?_
  cases h1 : T0 q with
  | none => rfl
  | some z =>
    have h2 := h.proc.keep q z h1
    rw [hv] at h2; cases h2
    have := (h0.best q v h1).2
    omega
theorem Lv.filter {n : Nat} {x : GS} (h : Lv A n x) : Lv A n (x.1, x.2.filter fun l => decide (l ≠ [])) := by
  obtain ⟨L, g1, g2, g3, g4, g5, g6⟩ := h.grp
  refine ⟨h.ok, h.set, L.filter (fun g => decide (g.2 ≠ [])), ?_, fun g hg => g2 g (List.mem_filter.1 hg).1, g3.filter _, fun g hg => g4 g (List.mem_filter.1 hg).1, fun q v hv hl => ?_, fun g hg => g6 g (List.mem_filter.1 hg).1⟩
  · show x.2.filter _ = _
    rw [g1, List.filter_map]
    rfl
  · obtain ⟨g, hg, hq⟩ := g5 q v hv hl
    refine ⟨g, List.mem_filter.2 ⟨hg, ?_⟩, hq⟩
    simp only [ne_eq, decide_eq_true_eq]
    intro e; rw [e] at hq; simp at hq
theorem Lv.next (hA : A.Ok) {n : Nat} (hn1 : n ≠ 0) {x : GS} (h : Lv A n x) : Lv A (n + 1) (nextG A x) := by
  obtain ⟨L, g1, g2, g3, g4, g5, g6⟩ := h.grp
  have hin : Grp A n (tabOf x.1.tb) (x.1, []) [] (fun _ _ => False) := ⟨h.set, .init, rfl, by simp, by simp, by simp, fun q v hv hno => (by simp only at hv; rw [hno] at hv; cases hv), by simp⟩
  obtain ⟨L', h1⟩ := next_outer hA hn1 h.ok L (x.1, []) [] _ g2 g3 g4 g6 hin (by simp)
  rw [← g1] at h1
  exact (h1.lv hA h.ok fun q i v0 q' hq hl hi hx ht => .inr ⟨g5 q v0 hq hl, hi⟩).filter
/-- a chain is no longer than there are places -/
theorem Best.fore (hA : A.Ok) {p q' : Pl} {cs : List Nat} {i : Nat} (h : Best A p (cs ++ [i]) q') : ∃ q, Best A p cs q := by
  obtain ⟨q, a1, a2, a3, a4⟩ := h.1.snoc rfl
  refine ⟨q, a1, fun p' cs' hp' => ?_⟩
  rcases Nat.lt_or_ge cs.length cs'.length with h1 | h1
  · exact .inl h1
  · have hx := Cx.nx_less hA a3 hp' h1
    have h2 := h.2 _ _ (hp'.step a2 hx a4)
    simp only [List.length_append, List.length_cons, List.length_nil] at h2
    have hl : cs'.length = cs.length := by omega
    refine .inr ⟨hl.symm, ?_⟩
    rcases h2 with h2 | ⟨_, h2⟩
    · omega
    · rw [lessB_snoc _ _ hl] at h2
      simpa using h2
theorem Best.places (hA : A.Ok) : ∀ (n : Nat) (p q : Pl) (cs : List Nat), cs.length = n → Best A p cs q → ∃ qs : List Pl, qs.length = n + 1 ∧ qs.Nodup ∧ ∀ r ∈ qs, ∃ cs', cs'.length ≤ n ∧ Best A p cs' r
  | 0, p, q, cs, hn, h => ⟨[q], rfl, by simp, fun r hr => ⟨cs, by omega, by rw [List.mem_singleton.1 hr]; exact h⟩⟩
  | n + 1, p, q, cs, hn, h => by
    have hne : cs ≠ [] := fun e => by simp [e] at hn
    have e := (List.dropLast_concat_getLast hne).symm
    have h' := h
    rw [e] at h'
    obtain ⟨q2, h2⟩ := h'.fore hA
    obtain ⟨qs, b1, b2, b3⟩ := Best.places hA n p q2 _ (by simp [hn]) h2
    refine ⟨q :: qs, by simp [b1], List.nodup_cons.2 ⟨fun hm => ?_, b2⟩, fun r hr => ?_⟩
    · obtain ⟨cs', c1, c2⟩ := b3 q hm
      have := (h.uniq hA c2).2
      rw [this] at hn; omega
    · rcases List.mem_cons.1 hr with rfl | hr
      · exact ⟨cs, by omega, h⟩
      · obtain ⟨cs', c1, c2⟩ := b3 r hr; exact ⟨cs', by omega, c2⟩
theorem nodup_le {l : List Nat} {m : Nat} (hn : l.Nodup) (h : ∀ x ∈ l, x < m) : l.length ≤ m := by
  have h1 : l.length ≤ (List.range m).length := hn.length_le_of_subset fun x hx => List.mem_range.2 (h x hx)
  simpa using h1
theorem Best.short (hA : A.Ok) {p q : Pl} {cs : List Nat} (h : Best A p cs q) : cs.length < 768 := by
  obtain ⟨qs, h1, h2, h3⟩ := Best.places hA _ p q cs rfl h
  have h4 : (qs.map fun r => r.1 * 128 + r.2).Nodup := by
    rw [List.nodup_iff_pairwise_ne, List.pairwise_map]
    refine (List.Pairwise.and_mem.1 (List.nodup_iff_pairwise_ne.1 h2)).imp fun {a b} hab e => ?_
    obtain ⟨ca, _, ha⟩ := h3 a hab.1
    obtain ⟨cb, _, hb⟩ := h3 b hab.2.1
    have := ha.1.key hA
    have := hb.1.key hA
    exact hab.2.2 (Prod.ext (by omega) (by omega))
  have h5 := nodup_le (m := 768) h4 (fun x hx => by
    obtain ⟨r, hr, rfl⟩ := List.mem_map.1 hx
    obtain ⟨cr, _, hb⟩ := h3 r hr
    have := hb.1.key hA
    have := hb.1.lt hA
    have := hA.nd
    omega)
  rw [List.length_map, h1] at h5
  omega
end
end Go.Sn
namespace Go.Sn
open Go.Gv
/-! # Hands -/
structure KR where
  a : Option Addr
  c : Nat
  ks : List Int
  deriving Inhabited
def KR.cell (r : KR) : Value := .slice r.a r.ks.length r.c
structure Hd where
  ka : Option Addr
  kc : Nat
  ks : List KR
  sa : Option Addr
  sc : Nat
  ss : List Int
  ca : Option Addr
  cc : Nat
  cs : List Int
abbrev Hd.val (h : Hd) : Value := .agg #[.slice h.ka h.ks.length h.kc, .slice h.sa h.ss.length h.sc, .slice h.ca h.cs.length h.cc]
structure HdIn (h : Hd) (w : World) (S : List Nat) : Prop where
  k : OldSl w S h.ka h.ks.length 1 (h.ks.map KR.cell)
  r : ∀ x ∈ h.ks, OldSl w S x.a x.ks.length 1 (x.ks.map intV)
  t : OldSl w S h.sa h.ss.length 1 (h.ss.map intV)
  c : OldSl w S h.ca h.cs.length 1 (h.cs.map intV)
structure HdLe (h : Hd) : Prop where
  k : h.ks.length ≤ 140737488355328
  r : ∀ x ∈ h.ks, x.ks.length ≤ 140737488355328
  kc : ∀ x ∈ h.ks, x.ks.length ≤ x.c
  t : h.ss.length ≤ 140737488355328
  c : h.cs.length ≤ 140737488355328
theorem HdIn.at {h : Hd} {w0 w : World} {S : List Nat} {l : List HL} (hh : HdIn h w0 S) (ho : Own w0 S w l) : HdIn h w [] := ⟨hh.k.at ho, fun x hx => (hh.r x hx).at ho, hh.t.at ho, hh.c.at ho⟩
theorem HdIn.atS {h : Hd} {w0 w : World} {S Sc : List Nat} {l : List HL} (hh : HdIn h w0 S) (ho : Own w0 S w l) (hlt : ∀ b ∈ Sc, w0.heap.size ≤ b) : HdIn h w Sc := ⟨hh.k.atS ho (by decide) hlt, fun x hx => (hh.r x hx).atS ho (by decide) hlt, hh.t.atS ho (by decide) hlt, hh.c.atS ho (by decide) hlt⟩
def riseAt (l : List Int) (lo hi bad : Int) (i : Nat) : Int := if l.getD i 0 < lo ∨ hi < l.getD i 0 then bad else if 0 < i ∧ l.getD i 0 ≤ l.getD (i - 1) 0 then 8 else 0
def riseP (l : List Int) (lo hi bad : Int) : Int := match firstO (fun i => errO (riseAt l lo hi bad i)) l.length 0 with
  | some (_, _, e) => e
  | none => 0
theorem riseP_ok {l : List Int} {lo hi bad : Int} (hb : bad ≠ 0) (h : riseP l lo hi bad = 0) : ∀ j, j < l.length → riseAt l lo hi bad j = 0 := by
  unfold riseP at h
  split at h
  · rename_i i k e he
    obtain ⟨_, _, h1, _⟩ := firstO_some he
    unfold errO at h1
    split at h1
    · cases h1
    · rename_i h2
      simp only [Option.some.injEq, Prod.mk.injEq] at h1
      omega
  · rename_i he
    intro j hj
    have := firstO_none_iff he j (Nat.zero_le _) (by omega)
    unfold errO at this
    split at this
    · assumption
    · cases this
def keyErr (s : Org) (h : Hd) (i : Nat) : Int := riseP (h.ks.getD i default).ks (s.ds.getD i default).lo (s.ds.getD i default).hi 7
def handErr (s : Org) (h : Hd) : Int :=
  if (checkP s).2 ≠ 0 then (checkP s).2 else
  if h.ks.length ≠ s.ds.length then 2 else
  match firstO (fun i => errO (keyErr s h i)) s.ds.length 0 with
  | some (_, _, e) => e
  | none => if riseP h.ss 0 ((s.ss.length : Int) - 1) 4 ≠ 0 then riseP h.ss 0 ((s.ss.length : Int) - 1) 4 else riseP h.cs 0 ((s.cs.length : Int) - 1) 4
/-- hands of which all is well -/
structure KN where
  a : Option Addr
  c : Nat
  ks : List Nat
  deriving Inhabited
def KN.kr (r : KN) : KR := ⟨r.a, r.c, r.ks.map (fun n : Nat => (n : Int))⟩
structure HN where
  ka : Option Addr
  kc : Nat
  ks : List KN
  sa : Option Addr
  sc : Nat
  ss : List Nat
  ca : Option Addr
  cc : Nat
  cs : List Nat
def HN.hd (h : HN) : Hd := ⟨h.ka, h.kc, h.ks.map KN.kr, h.sa, h.sc, h.ss.map (fun n : Nat => (n : Int)), h.ca, h.cc, h.cs.map (fun n : Nat => (n : Int))⟩
def KN.cell (r : KN) : Value := .slice r.a r.ks.length r.c
abbrev HN.val (h : HN) : Value := .agg #[.slice h.ka h.ks.length h.kc, .slice h.sa h.ss.length h.sc, .slice h.ca h.cs.length h.cc]
structure HNIn (h : HN) (w : World) (S : List Nat) : Prop where
  k : OldSl w S h.ka h.ks.length 1 (h.ks.map KN.cell)
  r : ∀ x ∈ h.ks, OldSl w S x.a x.ks.length 1 (x.ks.map natV)
  t : OldSl w S h.sa h.ss.length 1 (h.ss.map natV)
  c : OldSl w S h.ca h.cs.length 1 (h.cs.map natV)
theorem HNIn.at {h : HN} {w0 w : World} {S : List Nat} {l : List HL} (hh : HNIn h w0 S) (ho : Own w0 S w l) : HNIn h w [] := ⟨hh.k.at ho, fun x hx => (hh.r x hx).at ho, hh.t.at ho, hh.c.at ho⟩
theorem natI (l : List Nat) : (l.map fun n : Nat => (n : Int)).map intV = l.map natV := by simp
theorem HNIn.of {h : HN} {w : World} {S : List Nat} (hh : HdIn h.hd w S) : HNIn h w S := by
  obtain ⟨k, r, t, c⟩ := hh
  refine ⟨?_, fun x hx => ?_, ?_, ?_⟩
  · have e : (h.ks.map KN.kr).map KR.cell = h.ks.map KN.cell := by simp [KN.kr, KR.cell, KN.cell]
    simp only [HN.hd, List.length_map, e] at k
    exact k
  · have := r x.kr (by simp only [HN.hd]; exact List.mem_map_of_mem hx)
    simp only [KN.kr, List.length_map, natI] at this
    exact this
  · simp only [HN.hd, List.length_map, natI] at t; exact t
  · simp only [HN.hd, List.length_map, natI] at c; exact c
def cxN (s : Org) (h : HN) : Cx := ⟨s.ds, s.cs, h.ks.map KN.ks, h.cs⟩
/-- a hand that is good for a specification -/
structure HGood (s : Org) (h : HN) : Prop where
  spec : (checkP s).2 = 0
  cx : (cxN s h).Ok
  ssA : h.ss.Pairwise (· < ·)
  ssN : ∀ i ∈ h.ss, i < s.ss.length
  nr : s.rs.length ≤ 40
  ns : s.ss.length ≤ 80
  nc : s.cs.length ≤ 24
  hk : ∀ x ∈ h.ks, x.ks.length ≤ 128
  hc : ∀ x ∈ h.ks, x.ks.length ≤ x.c
theorem nat_list {l : List Int} (h : ∀ z ∈ l, 0 ≤ z) : l = (l.map Int.toNat).map (fun n : Nat => (n : Int)) := by
  rw [List.map_map]
  conv => lhs; rw [← List.map_id l]
  apply List.map_congr_left
  intro z hz
  have := h z hz
  simp only [id, Function.comp]
  omega
theorem rise_mem {l : List Int} {lo hi bad : Int} (hb : bad ≠ 0) (h : riseP l lo hi bad = 0) : (∀ z ∈ l, lo ≤ z ∧ z ≤ hi) ∧ l.Pairwise (· < ·) := by
  have h1 := riseP_ok hb h
  constructor
  · intro z hz
    obtain ⟨i, hi, rfl⟩ := getD_of_mem 0 hz
    have := h1 i hi
    unfold riseAt at this
    split at this
    · omega
    · omega
  · have key : ∀ i, i + 1 < l.length → l.getD i 0 < l.getD (i + 1) 0 := fun i hi => by
      have := h1 (i + 1) hi
      unfold riseAt at this
      rw [Nat.add_sub_cancel] at this
      split at this
      · omega
      · split at this
        · omega
        · omega
    rw [List.pairwise_iff_getElem]
    intro i j hi hj hij
    have step : ∀ d i, i + d + 1 < l.length → l.getD i 0 < l.getD (i + d + 1) 0 := fun d => by
      induction d with
      | zero => intro i hi; exact key i hi
      | succ d ih =>
        intro i hi
        have h2 := ih i (by omega)
        have h3 := key (i + d + 1) (by omega)
        rw [show i + (d + 1) + 1 = i + d + 1 + 1 by omega]
        omega
    have h2 := step (j - i - 1) i (by omega)
    rw [show i + (j - i - 1) + 1 = j by omega] at h2
    simpa [List.getD_eq_getElem?_getD, hi, hj] using h2
theorem toNat_asc {l : List Int} (h0 : ∀ z ∈ l, 0 ≤ z) (h : l.Pairwise (· < ·)) : (l.map Int.toNat).Pairwise (· < ·) := by
  rw [List.pairwise_map]
  refine (List.Pairwise.and_mem.1 h).imp fun {a b} hab => ?_
  have := h0 a hab.1
  have := h0 b hab.2.1
  have := hab.2.2
  omega
theorem asc_len {l : List Nat} {m : Nat} (h : l.Pairwise (· < ·)) (hm : ∀ x ∈ l, x < m) : l.length ≤ m :=
  nodup_le (h.imp fun h => Nat.ne_of_lt h) hm
/-- what the check of a specification says -/
theorem checkP_facts {s : Org} (h : (checkP s).2 = 0) : longB s = false ∧ (∀ i, i < s.ds.length → dvErr s.ds i = 0) ∧ (∀ i, i < s.rs.length → rkErr s.rs i = 0) ∧ (∀ i, i < s.ss.length → stO s i = none) ∧ (∀ i, i < s.cs.length → cpErr s.ds.length s.cs i = 0) := by
  have hno : ∀ {E : Nat → Int} {n k : Nat} {p : Nat} {e : Int}, firstO (fun i => errO (E i)) n 0 = some (k, p, e) → e ≠ 0 := fun he => by
    obtain ⟨_, _, h1, _⟩ := firstO_some he
    unfold errO at h1
    split at h1
    · cases h1
    · rename_i h2
      simp only [Option.some.injEq, Prod.mk.injEq] at h1
      rw [← h1.2]; exact h2
  have hyes : ∀ {E : Nat → Int} {n : Nat}, firstO (fun i => errO (E i)) n 0 = none → ∀ i, i < n → E i = 0 := fun he i hi => by
    have := firstO_none_iff he i (Nat.zero_le _) (by omega)
    unfold errO at this
    split at this
    · assumption
    · cases this
  unfold checkP at h
  cases hl : longB s with
  | true => rw [hl] at h; simp at h
  | false =>
    rw [hl] at h
    simp only [Bool.false_eq_true, if_false] at h
    cases h1 : firstO (fun i => errO (dvErr s.ds i)) s.ds.length 0 with
    | some x => obtain ⟨k, p, e⟩ := x; rw [h1] at h; exact absurd h (hno h1)
    | none =>
      rw [h1] at h
      simp only at h
      cases h2 : firstO (fun i => errO (rkErr s.rs i)) s.rs.length 0 with
      | some x => obtain ⟨k, p, e⟩ := x; rw [h2] at h; exact absurd h (hno h2)
      | none =>
        rw [h2] at h
        simp only at h
        cases h3 : firstO (stO s) s.ss.length 0 with
        | some x =>
          obtain ⟨k, p, e⟩ := x
          rw [h3] at h
          exfalso
          obtain ⟨_, _, h4, _⟩ := firstO_some h3
          simp only at h
          subst h
          unfold stO at h4
          split at h4
          · rename_i h5
            simp only [Option.some.injEq, Prod.mk.injEq] at h4
            exact h5 h4.2
          · split at h4
            · rename_i k2 e2 h5
              obtain ⟨_, _, h6, _⟩ := firstO_some h5
              simp only [Option.some.injEq, Prod.mk.injEq] at h4
              simp only at h6
              split at h6
              · cases h6
              · rename_i h7
                simp only [Option.some.injEq] at h6
                omega
            · cases h4
        | none =>
          rw [h3] at h
          simp only at h
          cases h4 : firstO (fun i => errO (cpErr s.ds.length s.cs i)) s.cs.length 0 with
          | some x => obtain ⟨k, p, e⟩ := x; rw [h4] at h; exact absurd h (hno h4)
          | none => exact ⟨rfl, hyes h1, hyes h2, fun i hi => firstO_none_iff h3 i (Nat.zero_le _) (by omega), hyes h4⟩
theorem cpErr_ok {nd : Nat} {l : List Cp} {i : Nat} (h : cpErr nd l i = 0) : (0 ≤ (l.getD i default).src ∧ (l.getD i default).src < nd) ∧ (0 ≤ (l.getD i default).dst ∧ (l.getD i default).dst < nd) ∧ (-12 ≤ (l.getD i default).shift ∧ (l.getD i default).shift ≤ 12) ∧ ((l.getD i default).thr = true → (l.getD i default).only = 0) ∧ (0 ≤ (l.getD i default).only ∧ (l.getD i default).only ≤ 2) := by
  unfold cpErr at h
  simp only at h
  split at h
  · omega
  · split at h
    · omega
    · split at h
      · omega
      · rename_i h3
        split at h
        · omega
        · rename_i h4
          unfold idxB at h3
          have h4 : cpArg (l.getD i default) = false := by simpa using h4
          unfold cpArg at h4
          simp only [Bool.or_eq_true, Bool.not_eq_true', Bool.and_eq_false_iff, decide_eq_false_iff_not, not_or, Decidable.not_not] at h3
          simp only [Bool.not_eq_false', Bool.and_eq_true, Bool.or_eq_true, decide_eq_true_eq, Bool.not_eq_true', Bool.and_eq_false_iff, decide_eq_false_iff_not, ne_eq, Decidable.not_not] at h4
          obtain ⟨⟨h5, h6⟩, h7⟩ := h4
          refine ⟨by omega, by omega, by omega, fun ht => ?_, h6⟩
          rcases h7 with h7 | h7
          · rw [ht] at h7; cases h7
          · omega
theorem good_of {s : Org} {h : Hd} (hle : HdLe h) (he : handErr s h = 0) : ∃ n : HN, h = n.hd ∧ HGood s n := by
  unfold handErr at he
  split at he
  · rename_i h1; exact absurd he h1
  · rename_i h1
    have h1' : (checkP s).2 = 0 := by omega
    split at he
    · omega
    · rename_i h2
      have h2' : h.ks.length = s.ds.length := by omega
      cases h3 : firstO (fun i => errO (keyErr s h i)) s.ds.length 0 with
      | some x =>
        obtain ⟨k, p, e⟩ := x
        rw [h3] at he
        simp only at he
        exfalso
        obtain ⟨_, _, h4, _⟩ := firstO_some h3
        unfold errO at h4
        split at h4
        · cases h4
        · rename_i h5
          simp only [Option.some.injEq, Prod.mk.injEq] at h4
          omega
      | none =>
        rw [h3] at he
        simp only at he
        split at he
        · rename_i h4; exact absurd he h4
        · rename_i h4
          have hS := rise_mem (by decide) (show riseP h.ss 0 ((s.ss.length : Int) - 1) 4 = 0 by omega)
          have hC := rise_mem (by decide) he
          obtain ⟨f1, f2, f3, f4, f5⟩ := checkP_facts h1'
          have hK : ∀ i, i < s.ds.length → (∀ z ∈ (h.ks.getD i default).ks, (s.ds.getD i default).lo ≤ z ∧ z ≤ (s.ds.getD i default).hi) ∧ (h.ks.getD i default).ks.Pairwise (· < ·) := fun i hi => by
            have := firstO_none_iff h3 i (Nat.zero_le _) (by omega)
            unfold errO at this
            split at this
            · rename_i h6; exact rise_mem (by decide) h6
            · cases this
          have hlo : ∀ i, i < s.ds.length → 0 ≤ (s.ds.getD i default).lo ∧ (s.ds.getD i default).lo ≤ (s.ds.getD i default).hi ∧ (s.ds.getD i default).hi ≤ 127 := fun i hi => by
            have := dvBad_no (dvErr_ok (f2 i hi)); omega
          have hk0 : ∀ x ∈ h.ks, ∀ z ∈ x.ks, 0 ≤ z ∧ z ≤ 127 := fun x hx z hz => by
            obtain ⟨i, hi, rfl⟩ := getD_of_mem default hx
            have := (hK i (by omega)).1 z hz
            have := hlo i (by omega)
            omega
          have hgd : ∀ d, ((h.ks.map fun r => (⟨r.a, r.c, r.ks.map Int.toNat⟩ : KN)).map KN.ks).getD d [] = (h.ks.getD d default).ks.map Int.toNat := fun d => by
            rw [List.map_map]
            rw [List.getD_eq_getElem?_getD, List.getD_eq_getElem?_getD, List.getElem?_map]
            cases h.ks[d]? <;> rfl
          have hl := f1
          unfold longB at hl
          simp only [Bool.or_eq_false_iff, decide_eq_false_iff_not] at hl
          have hdge : ∀ d, ¬ d < s.ds.length → (h.ks.getD d default).ks = [] := fun d hd => by
            rw [List.getD_eq_getElem?_getD, List.getElem?_eq_none (by omega)]; rfl
          refine ⟨⟨h.ka, h.kc, h.ks.map fun r => ⟨r.a, r.c, r.ks.map Int.toNat⟩, h.sa, h.sc, h.ss.map Int.toNat, h.ca, h.cc, h.cs.map Int.toNat⟩, ?_, ⟨h1', ?_, toNat_asc (fun z hz => (hS.1 z hz).1) hS.2, ?_, by omega, by omega, by omega, ?_, fun x hx => ?_⟩⟩
          · unfold HN.hd
            simp only
            rw [← nat_list (fun z hz => (hS.1 z hz).1), ← nat_list (fun z hz => (hC.1 z hz).1)]
            have : (h.ks.map fun r => (⟨r.a, r.c, r.ks.map Int.toNat⟩ : KN)).map KN.kr = h.ks := by
              rw [List.map_map]
              conv => rhs; rw [← List.map_id h.ks]
              apply List.map_congr_left
              intro x hx
              simp only [Function.comp, KN.kr, id]
              rw [← nat_list (fun z hz => (hk0 x hx z hz).1)]
            rw [this]
          · refine ⟨by simp only [cxN]; omega, by simp only [cxN, List.length_map]; omega, hlo, fun d k hk => ?_, fun d => ?_, toNat_asc (fun z hz => (hC.1 z hz).1) hC.2, fun i hi => ?_, fun i hi => (cpErr_ok (f5 i hi)).1, fun i hi => (cpErr_ok (f5 i hi)).2.1, fun i hi => (cpErr_ok (f5 i hi)).2.2.1, fun i ht => ?_⟩
            · simp only [Cx.kd, cxN, hgd] at hk
              obtain ⟨z, hz, rfl⟩ := List.mem_map.1 hk
              by_cases hd : d < s.ds.length
              · have h6 := (hK d hd).1 z hz
                have h7 := hlo d hd
                simp only [Cx.dv, cxN]
                omega
              · rw [hdge d hd] at hz; cases hz
            · simp only [Cx.kd, cxN, hgd]
              by_cases hd : d < s.ds.length
              · exact toNat_asc (fun z hz => by have := (hK d hd).1 z hz; have := hlo d hd; omega) (hK d hd).2
              · rw [hdge d hd]; exact List.Pairwise.nil
            · simp only [cxN] at hi ⊢
              obtain ⟨z, hz, rfl⟩ := List.mem_map.1 hi
              have := hC.1 z hz
              omega
            · by_cases hi : i < s.cs.length
              · exact (cpErr_ok (f5 i hi)).2.2.2.1 ht
              · simp only [Cx.cp, cxN] at ht
                rw [List.getD_eq_getElem?_getD, List.getElem?_eq_none (by omega)] at ht
                simp at ht
                cases ht
          · intro i hi
            obtain ⟨z, hz, rfl⟩ := List.mem_map.1 hi
            have := hS.1 z hz
            omega
          · intro x hx
            obtain ⟨r, hr, rfl⟩ := List.mem_map.1 hx
            obtain ⟨i, hi, hri⟩ := getD_of_mem default hr
            have h6 := hK i (by omega)
            rw [hri] at h6
            refine asc_len (toNat_asc (fun z hz => (hk0 r hr z hz).1) h6.2) (fun k hk => ?_)
            obtain ⟨z, hz, rfl⟩ := List.mem_map.1 hk
            have := hk0 r hr z hz
            omega
          · obtain ⟨r, hr, rfl⟩ := List.mem_map.1 hx
            have := hle.kc r hr
            simpa using this
end Go.Sn
namespace Go.Sn
def bitsOf (X : Nat) : List Nat := (List.range 128).filter fun i => X.testBit i
end Go.Sn
namespace Go.Sn
open Go.Gv
def findEn (l : List En) (q : Pl) : Option En := l.find? fun e => decide (e.q = q)
theorem enOf_q (l : List En) (q : Pl) (i : Nat) (p : Pl) : (enOf l q i p).q = q ∧ (enOf l q i p).i = (i : Int) ∧ (enOf l q i p).p = p := by
  unfold enOf
  cases tabOf l p <;> exact ⟨rfl, rfl, rfl⟩
/-- a group in memory -/
structure GR where
  r : Option Nat
  c : Nat
  ps : List Pl
  deriving Inhabited
def GR.cell (g : GR) : Value := .slice (rowA g.r) g.ps.length g.c
theorem stepR_set {A : Cx} (hA : A.Ok) {i : Nat} (hi : i ∈ A.dr) {x : AS × List Pl} {p : Pl} (h : SetOk A x.1) : SetOk A (stepR A i x p).1 := by
  unfold stepR
  cases ht : A.tgt i p with
  | none => exact h
  | some q =>
    simp only
    split
    · exact h
    · have hk := Cx.tgt_key hA hi ht
      have := hA.rng _ hk.2.2.1
      exact h.put hk.2.2.1 (by omega) (enOf_q _ _ _ _).1
theorem stepR_len {A : Cx} {i : Nat} {x : AS × List Pl} {p : Pl} : (stepR A i x p).2.length ≤ x.2.length + 1 := by
  unfold stepR
  cases A.tgt i p with
  | none => simp
  | some q => simp only; split <;> simp
end Go.Sn
namespace Go.Sn
open Go.Gv
/-! # Bounds of the groups; the played keys one after the other -/
section
variable {A : Cx}
structure GOk (l : List Pl) : Prop where
  len : l.length ≤ 128
  key : ∀ p ∈ l, p.2 < 128
theorem reach_ok (hA : A.Ok) {i : Nat} (hi : i ∈ A.dr) : ∀ (l : List Pl) (x : AS × List Pl), SetOk A x.1 → (∀ p ∈ x.2, p.2 < 128) → SetOk A (l.foldl (stepR A i) x).1 ∧ (l.foldl (stepR A i) x).2.length ≤ x.2.length + l.length ∧ ∀ p ∈ (l.foldl (stepR A i) x).2, p.2 < 128
  | [], x, h, h2 => ⟨h, by simp, h2⟩
  | p :: l, x, h, h2 => by
    have h3 := stepR_set hA hi (p := p) h
    have h4 := stepR_len (A := A) (i := i) (x := x) (p := p)
    obtain ⟨a, b, c⟩ := reach_ok hA hi l (stepR A i x p) h3 (fun q hq => by
      unfold stepR at hq
      cases ht : A.tgt i p with
      | none => rw [ht] at hq; exact h2 q hq
      | some q' =>
        rw [ht] at hq
        simp only at hq
        split at hq
        · exact h2 q hq
        · rcases List.mem_append.1 hq with hq | hq
          · exact h2 q hq
          · rw [List.mem_singleton.1 hq]
            have hk := Cx.tgt_key hA hi ht
            have := hA.rng _ hk.2.2.1
            omega)
    refine ⟨a, ?_, c⟩
    simp only [List.foldl_cons, List.length_cons]
    omega
theorem reachP_set (hA : A.Ok) {i : Nat} (hi : i ∈ A.dr) {l : List Pl} {st : AS} (h : SetOk A st) : SetOk A (reachP A i l st).1 := (reach_ok hA hi l (st, []) h (by simp)).1
end
end Go.Sn
namespace Go.Sn
open Go.Gv
/-! # The reference's table of chains -/
structure CE where
  there : Bool
  pl : Nat
  src : Nat
  r : Option Nat
  c : Nat
  ch : List Nat
  deriving Inhabited
abbrev CE.val (e : CE) : Value := .agg #[.bool e.there, natV e.pl, natV e.src, .slice (rowA e.r) e.ch.length e.c]
def ce0 : CE := ⟨false, 0, 0, none, 0, []⟩
def entR (tb : List (List CE)) (q : Pl) : CE := (tb.getD q.1 []).getD q.2 ce0
def tabR (tb : List (List CE)) : Tab := fun q => if (entR tb q).there then some (((entR tb q).src, (entR tb q).pl), (entR tb q).ch) else none
def setR (tb : List (List CE)) (q : Pl) (x : CE) : List (List CE) := tb.set q.1 ((tb.getD q.1 []).set q.2 x)
structure TbLen (nd : Nat) (tb : List (List CE)) : Prop where
  len : tb.length = nd
  row : ∀ r ∈ tb, r.length = 128
theorem TbLen.getD {nd : Nat} {tb : List (List CE)} (h : TbLen nd tb) {d : Nat} (hd : d < nd) : (tb.getD d []).length = 128 := by
  obtain ⟨r, hr⟩ := get_some (show d < tb.length by rw [h.len]; exact hd)
  rw [getD_some hr]; exact h.row r (List.mem_of_getElem? hr)
theorem entR_set {nd : Nat} {tb : List (List CE)} (h : TbLen nd tb) {q q' : Pl} (h1 : q.1 < nd) (h2 : q.2 < 128) (x : CE) : entR (setR tb q x) q' = if q' = q then x else entR tb q' := by
  unfold entR setR
  have hl := h.getD h1
  rw [Gv.getD_set _ _ _ _ (by rw [h.len]; exact h1)]
  by_cases e1 : q.1 = q'.1
  · rw [if_pos e1, Gv.getD_set _ _ _ _ (by rw [hl]; exact h2)]
    by_cases e2 : q.2 = q'.2
    · rw [if_pos e2, if_pos (Prod.ext e1.symm e2.symm)]
    · rw [if_neg e2, if_neg (fun h => e2 (by rw [h])), e1]
  · rw [if_neg e1, if_neg (fun h => e1 (by rw [h]))]
theorem TbLen.set {nd : Nat} {tb : List (List CE)} (h : TbLen nd tb) {q : Pl} (h1 : q.1 < nd) (x : CE) : TbLen nd (setR tb q x) := by
  refine ⟨by unfold setR; simp [h.len], fun r hr => ?_⟩
  unfold setR at hr
  rcases List.mem_or_eq_of_mem_set hr with hr | hr
  · exact h.row r hr
  · rw [hr, List.length_set]; exact h.getD h1
/-- to note a chain -/
def addR (lo hi : Int) (tb : List (List CE)) (d : Nat) (key : Int) (x : CE) : List (List CE) :=
  if key < lo ∨ hi < key then tb
  else if (entR tb (d, key.toNat)).there = false ∨ ((entR tb (d, key.toNat)).ch.length = x.ch.length ∧ lessB x.ch (entR tb (d, key.toNat)).ch = true) then setR tb (d, key.toNat) x else tb
theorem addR_tab {nd : Nat} {lo hi : Int} {tb : List (List CE)} (h : TbLen nd tb) {d : Nat} (hd : d < nd) (h0 : 0 ≤ lo) (h1 : hi ≤ 127) {key : Int} {x : CE} (hx : x.there = true) (hk : lo ≤ key ∧ key ≤ hi) : tabR (addR lo hi tb d key x) = addT (tabR tb) (d, key.toNat) ((x.src, x.pl), x.ch) := by
  funext q
  unfold addR
  rw [if_neg (by omega)]
  unfold addT
  by_cases hc : (entR tb (d, key.toNat)).there = false ∨ ((entR tb (d, key.toNat)).ch.length = x.ch.length ∧ lessB x.ch (entR tb (d, key.toNat)).ch = true)
  · rw [if_pos hc]
    unfold tabR
    rw [entR_set h hd (by simp only; omega)]
    by_cases e : q = (d, key.toNat)
    · subst e
      simp only [if_true, hx]
      rcases hc with hc | hc
      · rw [hc]; rfl
      · cases hth : (entR tb (d, key.toNat)).there with
        | false => rfl
        | true => simp only [if_true]; rw [if_pos hc]
    · rw [if_neg e, if_neg e]
  · rw [if_neg hc]
    unfold tabR
    by_cases e : q = (d, key.toNat)
    · subst e
      simp only [if_true]
      cases hth : (entR tb (d, key.toNat)).there with
      | false => exact absurd (.inl hth) hc
      | true =>
        simp only [if_true]
        rw [if_neg (fun h2 => hc (.inr h2))]
    · rw [if_neg e]
theorem addR_out {lo hi : Int} {tb : List (List CE)} {d : Nat} {key : Int} {x : CE} (hk : ¬ (lo ≤ key ∧ key ≤ hi)) : addR lo hi tb d key x = tb := by
  unfold addR; rw [if_pos (by omega)]
end Go.Sn
namespace Go.Sn
open Go.Gv
/-! # The reference's rounds over its table -/
section
variable {A : Cx}
/-- one chain is noted -/
theorem Proc.addR (hA : A.Ok) {n : Nat} {T0 : Tab} {tb : List (List CE)} {done : Pl → Nat → Prop} (h : Proc A n T0 (tabR tb) done) (h0 : TabOk A n T0) (htb : TbLen A.ds.length tb) {q : Pl} {i : Nat} {v0 : Pl × List Nat} (hq : T0 q = some v0) (hn : v0.2.length = n) (hi : i ∈ A.dr) (hx : A.nx v0.2 q i = true) {c : Cp} (hc : A.cp i = c) {d : Dv} (hd : A.dv c.dst.toNat = d) {key : Int} (hk : key = (q.2 : Int) + c.shift) (r : Option Nat) (cc : Nat) :
    Proc A n T0 (tabR (Sn.addR d.lo d.hi tb c.dst.toNat key ⟨true, v0.1.2, v0.1.1, r, cc, v0.2 ++ [i]⟩)) (fun a b => done a b ∨ (a = q ∧ b = i)) := by
  subst hc; subst hd; subst hk
  have hdst := hA.dst i (hA.drn i hi)
  have hrg := hA.rng (A.cp i).dst.toNat (by omega)
  by_cases hin : (A.dv (A.cp i).dst.toNat).lo ≤ (q.2 : Int) + (A.cp i).shift ∧ (q.2 : Int) + (A.cp i).shift ≤ (A.dv (A.cp i).dst.toNat).hi
  · rw [addR_tab htb (by omega) hrg.1 hrg.2.2 rfl hin]
    exact h.add h0 hq hn hi hx (by unfold Cx.tgt; rw [if_pos hin])
  · rw [addR_out hin]
    exact h.skip (by unfold Cx.tgt; rw [if_neg hin])
/-- an entry with chains of n couplers was there before -/
theorem Proc.old {n : Nat} {T0 T : Tab} {done : Pl → Nat → Prop} (h : Proc A n T0 T done) {q : Pl} {v : Pl × List Nat} (hv : T q = some v) (hn : v.2.length = n) : T0 q = some v := by
  rcases h.new q v hv with h1 | ⟨_, q1, i, v0, _, h2, _, _, _, rfl⟩
  · exact h1
  · simp at hn; omega
theorem TabOk.short (hA : A.Ok) {n : Nat} {T : Tab} (h : TabOk A n T) {q : Pl} {v : Pl × List Nat} (hv : T q = some v) : v.2.length < 768 := (h.best q v hv).1.short hA
theorem Proc.same {n : Nat} {T0 T : Tab} {done : Pl → Nat → Prop} (h : Proc A n T0 T done) (hn : ∀ q v, T0 q = some v → v.2.length ≠ n) : T = T0 := by
  funext q
  cases hT : T q with
  | none =>
    cases h0 : T0 q with
    | none => rfl
    | some v => rw [h.keep q v h0] at hT; cases hT
  | some v =>
    rcases h.new q v hT with h1 | ⟨_, q1, i, v0, h1, h2, _⟩
    · exact h1.symm
    · exact absurd h2 (hn q1 v0 h1)
/-- after a round -/
theorem Proc.round (hA : A.Ok) {n : Nat} {T0 T : Tab} {done : Pl → Nat → Prop} (h0 : TabOk A n T0) (h : Proc A n T0 T done) (hd : ∀ q v0, T0 q = some v0 → ∀ i, done q i) (more : Bool) (hm : more = false → ∀ q v, T0 q = some v → v.2.length ≠ n) : (more = true → TabOk A (n + 1) T) ∧ (more = false → Chains A T) := by
  refine ⟨fun _ => h.finish hA h0 fun q i v0 q' hq _ _ _ _ => hd q v0 hq i, fun hf => ?_⟩
  rw [h.same (hm hf)]
  exact h0.chains hA (hm hf)
end
end Go.Sn
namespace Go.Sn
open Go.Gv
open Go.RowKit
/-! ## Keys: what sounds in each division, and how it lies in memory -/
structure KG where
  r : Option Nat
  c : Nat
  ks : List Nat
def KG.cell (g : KG) : Value := .slice (rowA g.r) g.ks.length g.c
def KG.hl (t : TypeId) (g : KG) : HL := .row t 1 g.r g.ks.length g.c (g.ks.map natV)
def nilV : Value := .slice none 0 0
theorem kg_get {G : List KG} {k : Nat} {g : KG} (h : G[k]? = some g) : (G.map KG.cell)[k]? = some g.cell := by rw [List.getElem?_map, h]; rfl
end Go.Sn
namespace Go.Sn
open Go.Gv
open Go.RowKit
/-! ## The pipes that sets of them hold -/
def pipesU (sets : List Nat) (k : Nat) : List Pl := (List.range k).flatMap fun d => (bitsOf (sets.getD d 0)).map fun n => (d, n)
end Go.Sn
namespace Go.Sn
open Go.Gv
open Go.RowKit
/-! ## How often a pipe is played -/
def hitB (p : Pt) (n : Nat) : Bool := decide (p.lo ≤ (n : Int)) && decide ((n : Int) ≤ p.hi)
/-- the parts of a good stop -/
structure PtsOk (nr : Nat) (ps : List Pt) : Prop where
  rank : ∀ p ∈ ps, 0 ≤ p.rank ∧ p.rank < nr
  note : ∀ p ∈ ps, ∀ n : Nat, hitB p n = true → 0 ≤ (n : Int) + p.shift ∧ (n : Int) + p.shift ≤ 127
end Go.Sn
namespace Go.Sn
open Go.Gv
open Go.RowKit
/-! ## The count, step by step -/
theorem own_new {w0 w : World} {l : List HL} (ho : Own w0 [] w l) : ∀ b ∈ l.filterMap HL.block, w0.heap.size ≤ b := fun b hb => by
  obtain ⟨y, hy, hyb⟩ := List.mem_filterMap.1 hb
  rcases ho.place y hy b hyb with h | h
  · cases h
  · exact h
section
variable {b : Pl → Nat} {x : St} {ks : List Nat} {i j nr : Nat} {q : Pl}
end
end Go.Sn
namespace Go.Sn
open Go.Gv
open Go.RowKit
/-! ## The sets of the pipes that sound -/
structure SetU (nr : Nat) (f : Pl → Nat) (r k : Nat) (sets : List Nat) : Prop where
  len : sets.length = nr
  lt : ∀ x ∈ sets, x < 2 ^ 128
  has : ∀ q : Pl, q.1 < nr → q.2 < 128 → (hasS sets q = true ↔ (q.1 < r ∨ (q.1 = r ∧ q.2 < k)) ∧ 0 < f q)
theorem SetU.init (nr : Nat) (f : Pl → Nat) : SetU nr f 0 0 (List.replicate nr 0) := by
  refine ⟨by simp, fun x hx => ?_, fun q hq h2 => ?_⟩
  · rw [List.eq_of_mem_replicate hx]; decide
  · unfold hasS
    rw [List.getD_eq_getElem?_getD, List.getElem?_replicate_of_lt hq]
    simp only [Option.getD_some, Nat.zero_testBit]
    constructor
    · intro h; cases h
    · rintro ⟨h, _⟩; omega
section
variable {nr r k : Nat} {f : Pl → Nat} {sets : List Nat}
theorem SetU.no (h : SetU nr f r k sets) (hf : f (r, k) = 0) : SetU nr f r (k + 1) sets := by
  refine ⟨h.len, h.lt, fun q hq h2 => ?_⟩
  rw [h.has q hq h2]
  constructor
  · rintro ⟨h3, h4⟩; exact ⟨by omega, h4⟩
  · rintro ⟨h3, h4⟩
    refine ⟨?_, h4⟩
    by_cases e : q = (r, k)
    · subst e; omega
    · rcases h3 with h3 | ⟨h3, h5⟩
      · exact .inl h3
      · refine .inr ⟨h3, ?_⟩
        have : q.2 ≠ k := fun e2 => e (Prod.ext h3 e2)
        omega
theorem SetU.yes (h : SetU nr f r k sets) (hr : r < nr) (hk : k < 128) (hf : 0 < f (r, k)) : SetU nr f r (k + 1) (addSet sets (r, k)) := by
  refine ⟨by unfold addSet; rw [List.length_set]; exact h.len, fun x hx => ?_, fun q hq h2 => ?_⟩
  · unfold addSet at hx
    rcases List.mem_or_eq_of_mem_set hx with hx | rfl
    · exact h.lt x hx
    · exact or_lt128 (getD_lt h.lt r) hk
  · rw [hasS_add (by rw [h.len]; exact hr), Bool.or_eq_true, h.has q hq h2, decide_eq_true_eq]
    constructor
    · rintro (⟨h3, h4⟩ | rfl)
      · exact ⟨by omega, h4⟩
      · exact ⟨.inr ⟨rfl, by simp only; omega⟩, hf⟩
    · rintro ⟨h3, h4⟩
      by_cases e : q = (r, k)
      · exact .inr e
      · refine .inl ⟨?_, h4⟩
        rcases h3 with h3 | ⟨h3, h5⟩
        · exact .inl h3
        · refine .inr ⟨h3, ?_⟩
          have : q.2 ≠ k := fun e2 => e (Prod.ext h3 e2)
          omega
theorem SetU.next (h : SetU nr f r 128 sets) : SetU nr f (r + 1) 0 sets := by
  refine ⟨h.len, h.lt, fun q hq h2 => ?_⟩
  rw [h.has q hq h2]
  constructor
  · rintro ⟨h3, h4⟩; exact ⟨by omega, h4⟩
  · rintro ⟨h3, h4⟩; exact ⟨by omega, h4⟩
/-- the pipes that are played, in their order -/
def pipesP (nr : Nat) (f : Pl → Nat) : List Pl := (List.range nr).flatMap fun r => ((List.range 128).filter fun p => decide (0 < f (r, p))).map fun p => (r, p)
theorem flat_congr {α β : Type} {g g' : α → List β} : ∀ {l : List α}, (∀ x ∈ l, g x = g' x) → l.flatMap g = l.flatMap g'
  | [], _ => rfl
  | a :: l, h => by rw [List.flatMap_cons, List.flatMap_cons, h a List.mem_cons_self, flat_congr fun x hx => h x (List.mem_cons_of_mem _ hx)]
theorem SetU.pipes (h : SetU nr f nr 0 sets) : pipesU sets nr = pipesP nr f := by
  unfold pipesU pipesP
  apply flat_congr
  intro r hr
  have hr := List.mem_range.1 hr
  congr 1
  unfold bitsOf
  apply List.filter_congr
  intro p hp
  have hp := List.mem_range.1 hp
  have h1 := h.has (r, p) hr hp
  unfold hasS at h1
  rw [Bool.eq_iff_iff, decide_eq_true_eq, h1]
  constructor
  · exact fun h => h.2
  · exact fun h => ⟨.inl hr, h⟩
end
end Go.Sn
namespace Go.Sn
open Go.Gv
open Go.RowKit
end Go.Sn
namespace Go.Sn
open Go.Gv
open Go.RowKit
/-! ## Each place that acts names the one before it -/
inductive Lk : List En → Prop
  | nil : Lk []
  | put (tb : List En) (q : Pl) : Lk tb → tabOf tb q = none → Lk (tb ++ [⟨q, -1, (0, 0), q, []⟩])
  | step (tb : List En) (q p : Pl) (i : Nat) (v : Pl × List Nat) : Lk tb → tabOf tb q = none → tabOf tb p = some v → Lk (tb ++ [⟨q, i, p, v.1, v.2 ++ [i]⟩])
def InT (tb : List En) (l : List Pl) : Prop := ∀ p ∈ l, ∃ v, tabOf tb p = some v
theorem tab_mono {tb : List En} {e : En} {q : Pl} {v : Pl × List Nat} (h : tabOf tb q = some v) : tabOf (tb ++ [e]) q = some v := by rw [tabOf_snoc, h]
theorem InT.mono {tb : List En} {e : En} {l : List Pl} (h : InT tb l) : InT (tb ++ [e]) l := fun p hp => by
  obtain ⟨v, hv⟩ := h p hp
  exact ⟨v, tab_mono hv⟩
theorem find_snoc (tb : List En) (e : En) (q : Pl) : findEn (tb ++ [e]) q = match findEn tb q with | some x => some x | none => if e.q = q then some e else none := by
  unfold findEn
  rw [List.find?_append]
  cases h : tb.find? (fun e => decide (e.q = q)) with
  | some v => simp
  | none =>
    simp only [Option.none_or, List.find?_cons, List.find?_nil]
    by_cases h2 : e.q = q <;> simp [h2]
theorem Lk.get {tb : List En} (h : Lk tb) : ∀ {q : Pl} {e : En}, findEn tb q = some e → (e.i = -1 ∧ tabOf tb q = some (q, [])) ∨ ∃ (i : Nat) (v : Pl × List Nat), e.i = i ∧ tabOf tb e.p = some v ∧ tabOf tb q = some (v.1, v.2 ++ [i]) := by
  induction h with
  | nil => intro q e h; cases h
  | put tb q0 h0 hno ih =>
    intro q e he
    rw [find_snoc] at he
    cases hf : findEn tb q with
    | some x =>
      rw [hf] at he
      simp only [Option.some.injEq] at he
      subst he
      rcases ih hf with ⟨h1, h2⟩ | ⟨i, v, h1, h2, h3⟩
      · exact .inl ⟨h1, tab_mono h2⟩
      · exact .inr ⟨i, v, h1, tab_mono h2, tab_mono h3⟩
    | none =>
      rw [hf] at he
      simp only at he
      split at he
      · rename_i hq
        simp only [Option.some.injEq] at he
        subst he
        subst hq
        refine .inl ⟨rfl, ?_⟩
        rw [tabOf_snoc, hno]; simp
      · cases he
  | step tb q0 p i v h0 hno hp ih =>
    intro q e he
    rw [find_snoc] at he
    cases hf : findEn tb q with
    | some x =>
      rw [hf] at he
      simp only [Option.some.injEq] at he
      subst he
      rcases ih hf with ⟨h1, h2⟩ | ⟨i', v', h1, h2, h3⟩
      · exact .inl ⟨h1, tab_mono h2⟩
      · exact .inr ⟨i', v', h1, tab_mono h2, tab_mono h3⟩
    | none =>
      rw [hf] at he
      simp only at he
      split at he
      · rename_i hq
        simp only [Option.some.injEq] at he
        subst he
        subst hq
        refine .inr ⟨i, v, rfl, tab_mono hp, ?_⟩
        rw [tabOf_snoc, hno]; simp
      · cases he
section
variable {A : Cx}
/-- a state of which the links are good, and lists of places in it -/
structure LG (A : Cx) (x : GS) : Prop where
  lk : Lk x.1.tb
  set : SetOk A x.1
  mem : ∀ l ∈ x.2, InT x.1.tb l
theorem stepR_lk (hA : A.Ok) {i : Nat} (hi : i ∈ A.dr) {x : AS × List Pl} {p : Pl} (hs : SetOk A x.1) (hl : Lk x.1.tb) (hm : InT x.1.tb x.2) (hp : ∃ v, tabOf x.1.tb p = some v) : Lk (stepR A i x p).1.tb ∧ InT (stepR A i x p).1.tb (stepR A i x p).2 ∧ (∀ q v, tabOf x.1.tb q = some v → tabOf (stepR A i x p).1.tb q = some v) := by
  unfold stepR
  cases ht : A.tgt i p with
  | none => exact ⟨hl, hm, fun _ _ h => h⟩
  | some q =>
    simp only
    split
    · exact ⟨hl, hm, fun _ _ h => h⟩
    · rename_i hno
      have hk := Cx.tgt_key hA hi ht
      have hn : tabOf x.1.tb q = none := by
        cases h9 : tabOf x.1.tb q with
        | none => rfl
        | some v => exact absurd ((hs.has q hk.2.2.1).2 ⟨v, h9⟩) hno
      obtain ⟨v, hv⟩ := hp
      have he : enOf x.1.tb q i p = ⟨q, i, p, v.1, v.2 ++ [i]⟩ := by unfold enOf; rw [hv]
      rw [he]
      refine ⟨.step _ _ _ _ _ hl hn hv, fun p' hp' => ?_, fun _ _ h => tab_mono h⟩
      rcases List.mem_append.1 hp' with h | h
      · exact hm.mono p' h
      · rw [List.mem_singleton.1 h]
        exact ⟨(v.1, v.2 ++ [i]), by rw [tabOf_snoc, hn]; simp⟩
theorem reach_lk (hA : A.Ok) {i : Nat} (hi : i ∈ A.dr) : ∀ (l : List Pl) (x : AS × List Pl), SetOk A x.1 → Lk x.1.tb → InT x.1.tb x.2 → InT x.1.tb l → Lk (l.foldl (stepR A i) x).1.tb ∧ InT (l.foldl (stepR A i) x).1.tb (l.foldl (stepR A i) x).2 ∧ (∀ q v, tabOf x.1.tb q = some v → tabOf (l.foldl (stepR A i) x).1.tb q = some v)
  | [], x, _, h2, h3, _ => ⟨h2, h3, fun _ _ h => h⟩
  | p :: l, x, h1, h2, h3, h4 => by
    obtain ⟨a, b, c⟩ := stepR_lk hA hi h1 h2 h3 (h4 p List.mem_cons_self)
    obtain ⟨a', b', c'⟩ := reach_lk hA hi l (stepR A i x p) (stepR_set hA hi h1) a b (fun q hq => by
      obtain ⟨v, hv⟩ := h4 q (List.mem_cons_of_mem _ hq)
      exact ⟨v, c q v hv⟩)
    exact ⟨a', b', fun q v h => c' q v (c q v h)⟩
theorem LG.reach (hA : A.Ok) {i : Nat} (hi : i ∈ A.dr) {x : GS} (h : LG A x) {l : List Pl} (hl : InT x.1.tb l) : LG A ((reachP A i l x.1).1, x.2 ++ [(reachP A i l x.1).2]) ∧ ∀ q v, tabOf x.1.tb q = some v → tabOf (reachP A i l x.1).1.tb q = some v := by
  obtain ⟨a, b, c⟩ := reach_lk hA hi l (x.1, []) h.set h.lk (by intro p hp; cases hp) hl
  refine ⟨⟨a, reachP_set hA hi h.set, fun l' hl' p hp => ?_⟩, c⟩
  rcases List.mem_append.1 hl' with h' | h'
  · obtain ⟨v, hv⟩ := h.mem l' h' p hp
    exact ⟨v, c p v hv⟩
  · rw [List.mem_singleton.1 h'] at hp
    exact b p hp
end
end Go.Sn
namespace Go.Sn
open Go.Gv
open Go.RowKit
/-! ## A list turned about, pair by pair -/
structure Turned (xs ys : List Nat) (i : Nat) : Prop where
  len : ys.length = xs.length
  at_ : ∀ k, k < xs.length → ys[k]? = if k < i ∨ xs.length - i ≤ k then xs[xs.length - 1 - k]? else xs[k]?
theorem Turned.init (xs : List Nat) : Turned xs xs 0 := ⟨rfl, fun k hk => by rw [if_neg (by omega)]⟩
theorem Turned.step {xs ys : List Nat} {i : Nat} (h : Turned xs ys i) {u v : Nat} (hi : 2 * i + 1 < xs.length) (hu : ys[xs.length - 1 - i]? = some u) (hv : ys[i]? = some v) : Turned xs ((ys.set i u).set (xs.length - 1 - i) v) (i + 1) := by
  refine ⟨by rw [List.length_set, List.length_set, h.len], fun k hk => ?_⟩
  have h1 := h.at_ i (by omega)
  rw [if_neg (by omega), hv] at h1
  have h2 := h.at_ (xs.length - 1 - i) (by omega)
  rw [if_neg (by omega), hu] at h2
  rw [List.getElem?_set, List.length_set, h.len]
  by_cases e1 : xs.length - 1 - i = k
  · rw [if_pos e1, if_pos (by omega), if_pos (by omega), h1]; congr 1; omega
  · rw [if_neg e1, List.getElem?_set, h.len]
    by_cases e2 : i = k
    · rw [if_pos e2, if_pos (by omega), if_pos (by omega), h2]; congr 1; omega
    · rw [if_neg e2, h.at_ k hk]
      by_cases e3 : k < i ∨ xs.length - i ≤ k
      · rw [if_pos e3, if_pos (by omega)]
      · rw [if_neg e3, if_neg (by omega)]
theorem Turned.done {xs ys : List Nat} {i : Nat} (h : Turned xs ys i) (hi : xs.length ≤ 2 * i + 1) : ys = xs.reverse := by
  apply List.ext_getElem?
  intro k
  rcases Nat.lt_or_ge k xs.length with hk | hk
  · rw [h.at_ k hk, List.getElem?_reverse hk]
    split
    · rfl
    · congr 1; omega
  · rw [List.getElem?_eq_none (by rw [h.len]; exact hk), List.getElem?_eq_none (by rw [List.length_reverse]; exact hk)]
/-- the walk from q0: the couplers so far, from the last one on -/
structure Back (tb : List En) (q0 : Pl) (p : Pl) (cs : List Nat) : Prop where
  at_ : ∃ v v0, tabOf tb p = some v ∧ tabOf tb q0 = some v0 ∧ v.1 = v0.1 ∧ v0.2 = v.2 ++ cs.reverse
theorem Back.init {tb : List En} {q0 : Pl} {v0 : Pl × List Nat} (h : tabOf tb q0 = some v0) : Back tb q0 q0 [] := ⟨v0, v0, h, h, rfl, by simp⟩
theorem Back.step {tb : List En} {q0 p : Pl} {cs : List Nat} (h : Back tb q0 p cs) (hl : Lk tb) {e : En} (he : findEn tb p = some e) (h0 : 0 ≤ e.i) : Back tb q0 e.p (cs ++ [e.i.toNat]) := by
  obtain ⟨v, v0, h1, h2, h3, h4⟩ := h.at_
  rcases hl.get he with ⟨a, _⟩ | ⟨i, v', a, b, c⟩
  · omega
  · rw [h1] at c
    simp only [Option.some.injEq] at c
    subst c
    refine ⟨v', v0, b, h2, h3, ?_⟩
    rw [h4, a]
    simp
theorem Back.done {tb : List En} {q0 p : Pl} {cs : List Nat} (h : Back tb q0 p cs) (hl : Lk tb) {e : En} (he : findEn tb p = some e) (h0 : e.i < 0) : tabOf tb q0 = some (p, cs.reverse) := by
  obtain ⟨v, v0, h1, h2, h3, h4⟩ := h.at_
  rcases hl.get he with ⟨_, b⟩ | ⟨i, v', a, b, c⟩
  · rw [h1] at b
    simp only [Option.some.injEq] at b
    subst b
    rw [h2]
    congr 1
    exact Prod.ext h3.symm (by rw [h4]; rfl)
  · omega
theorem Back.len {tb : List En} {q0 p : Pl} {cs : List Nat} (h : Back tb q0 p cs) {v0 : Pl × List Nat} (h0 : tabOf tb q0 = some v0) : cs.length ≤ v0.2.length := by
  obtain ⟨v, v1, h1, h2, h3, h4⟩ := h.at_
  rw [h0] at h2
  simp only [Option.some.injEq] at h2
  subst h2
  rw [h4]; simp
end Go.Sn
namespace Go.Sn
open Go.Gv
open Go.RowKit
/-- a reason -/
structure Rsn where
  d0 : Nat
  k0 : Nat
  ch : List Nat
  d : Nat
  n : Nat
  i : Nat
  deriving DecidableEq
def Rsn.cells (u : Rsn) (a : Option Addr) (c : Nat) : List Value := [natV u.d0, natV u.k0, .slice a u.ch.length c, natV u.d, natV u.n, natV u.i]
abbrev Rsn.val (u : Rsn) (a : Option Addr) (c : Nat) : Value := .agg #[natV u.d0, natV u.k0, .slice a u.ch.length c, natV u.d, natV u.n, natV u.i]
end Go.Sn
namespace Go.Sn
open Go.Gv
open Go.RowKit
section
variable {s : Org} {h : HN} {r0 p0 : Int} {b : Option Rsn} {i0 : Nat} {x : St} {ks : List Nat} {i n : Nat}
end
end Go.Sn
namespace Go.Sn
open Go.Gv
open Go.RowKit
/-! ## The document's specification -/
def exDs : List Dv := [⟨⟨#[103, 114, 101, 97, 116]⟩, 36, 60⟩]
def exRs : List Rk := [⟨⟨#[102, 108, 117, 116, 101]⟩, 2, 8, 1, 36, 37⟩, ⟨⟨#[114, 101, 101, 100]⟩, 4, 8, 1, 36, 13⟩]
def exP1 : List Pt := [⟨0, 0, 36, 60⟩]
def exP2 : List Pt := [⟨0, 12, 36, 60⟩]
def exP3 : List Pt := [⟨1, 0, 36, 48⟩]
def exC1 : List Cp := [⟨⟨#[111, 99, 116, 97, 118, 101]⟩, 0, 0, 12, 0, false⟩]
def exSs (p1 p2 p3 : Nat) : List St := [⟨⟨#[102, 108, 117, 116, 101, 56]⟩, 0, 8, 1, some ⟨p1, 0, none⟩, 1, exP1⟩, ⟨⟨#[102, 108, 117, 116, 101, 52]⟩, 0, 4, 1, some ⟨p2, 0, none⟩, 1, exP2⟩, ⟨⟨#[98, 97, 115, 115]⟩, 0, 8, 1, some ⟨p3, 0, none⟩, 1, exP3⟩]
def exC4 : List Cp := exC1 ++ [⟨⟨#[100, 111, 119, 110]⟩, 0, 0, -12, 0, false⟩, ⟨⟨#[104, 105, 103, 104]⟩, 0, 0, 12, 2, false⟩, ⟨⟨#[102, 97, 114]⟩, 0, 0, 12, 0, true⟩]
def ex12 (d r p1 p2 p3 t : Nat) (ca : Option Nat) (cc : Nat) : Org := ⟨some ⟨d, 0, none⟩, 1, exDs, some ⟨r, 0, none⟩, 2, exRs, some ⟨t, 0, none⟩, 3, exSs p1 p2 p3, rowA ca, cc, exC4⟩
end Go.Sn
namespace Go.Sn
open Go.Gv
open Go.RowKit
section
variable (d r p1 p2 p3 t : Nat) (c : Option Nat) (cc : Nat) (ka k0 sa ca : Option Addr)
end
section
variable {d r p1 p2 p3 t : Nat} {c : Option Nat} {cc : Nat} {ka k0 sa ca : Option Addr}
end
end Go.Sn
namespace Go.Sn
open Go.Gv
open Go.RowKit
/-! ## What the answers say of the document's example -/
section
variable {d r p1 p2 p3 t : Nat} {c : Option Nat} {cc : Nat} {ka k0 sa ca : Option Addr} {ti ts tp tr : TypeId} {v : Value} {L : List HL}
theorem all_le {α : Type} {f : α → Nat} {l : List α} {m : Nat} (hm : m ≤ 140737488355328) (h : (l.all fun x => Nat.ble (f x) m) = true) : ∀ x ∈ l, f x ≤ 140737488355328 := fun x hx => Nat.le_trans (Nat.le_of_ble_eq_true (List.all_eq_true.1 h x hx)) hm
theorem ex_le : OrgLe (ex12 d r p1 p2 p3 t c cc) := by
  refine ⟨by show 1 ≤ 140737488355328; omega, by show 2 ≤ 140737488355328; omega, by show 3 ≤ 140737488355328; omega, by show 4 ≤ 140737488355328; omega, all_le (m := 16) (by omega) (by kernel_rfl), fun x hx => ?_, all_le (m := 16) (by omega) (by kernel_rfl), all_le (m := 16) (by omega) (by kernel_rfl), all_le (m := 16) (by omega) (by kernel_rfl), all_le (m := 16) (by omega) (by kernel_rfl)⟩
  have h : ((ex12 d r p1 p2 p3 t c cc).ss.all fun x => Nat.ble x.ps.length x.pc) = true := by kernel_rfl
  exact Nat.le_of_ble_eq_true (List.all_eq_true.1 h x hx)
theorem ex_in {w : World} {S : List Nat} (hd : OldSl w S (rowA (some d)) 1 3 (exDs.flatMap Dv.cells)) (hr : OldSl w S (rowA (some r)) 2 6 (exRs.flatMap Rk.cells)) (ht : OldSl w S (rowA (some t)) 3 5 ((exSs p1 p2 p3).flatMap St.cells)) (hc : OldSl w S (rowA c) 4 6 (exC4.flatMap Cp.cells)) (h1 : OldSl w S (rowA (some p1)) 1 4 (exP1.flatMap Pt.cells)) (h2 : OldSl w S (rowA (some p2)) 1 4 (exP2.flatMap Pt.cells)) (h3 : OldSl w S (rowA (some p3)) 1 4 (exP3.flatMap Pt.cells)) : OrgIn (ex12 d r p1 p2 p3 t c cc) w S := by
  refine ⟨hd, hr, ht, hc, fun x hx => ?_⟩
  change x ∈ exSs p1 p2 p3 at hx
  unfold exSs at hx
  rcases List.mem_cons.1 hx with rfl | hx
  · exact h1
  rcases List.mem_cons.1 hx with rfl | hx
  · exact h2
  rcases List.mem_cons.1 hx with rfl | hx
  · exact h3
  · cases hx
end
end Go.Sn
namespace Go.Sn
open Go.Gv
open Go.RowKit Go.Deep Go.ChangeShapes Go.WideShapes
section
variable {P : Program} {H : Type} {enc : TypeId × Value → H} {W : World} {base : Nat} {sp : Nat → Bool} {held : Bool}
theorem cells_at {a : Addr} {n : Nat} {cs : List Value} (h : W.cells? base a n = some cs) : cs.length = n ∧ ∀ i v, cs[i]? = some v → W.cell? (a.add i) = some v := by
  obtain ⟨_, h1, h2⟩ := World.cells?_some h
  refine ⟨h1, fun i v hv => ?_⟩
  have hi := (List.getElem?_eq_some_iff.1 hv).1
  rw [h2 i (by omega)]; exact hv
theorem weightsAll_mem {e : TypeId} : ∀ {l : List (DataW H)} {d : DataW H}, d ∈ l → ∀ b ∈ d.weights P e, b ∈ DataW.weightsAll P e l
  | y :: l, d, hd, b, hb => by
    rw [DataW.weightsAll]
    rcases List.mem_cons.1 hd with rfl | hd
    · exact List.mem_append_left _ hb
    · exact List.mem_append_right _ (weightsAll_mem hd b hb)
  | [], d, hd, _, _ => by cases hd
/-- a slice of structs, each with what it points to -/
theorem openSlW {α : Type} [Inhabited α] (f : α → List Value) (G : α → Prop) (sz T E bb : Nat) (hf : ∀ x, (f x).length = sz) (hsz : 0 < sz) (hu : P.underlying T = some (.slice E)) (hc : P.cellsOf E = sz) (hB : P.bytesOf E = bb) (hbb : 8 ≤ bb) (hel : ∀ (n : Nat) (cs : List Value) (x : DataW H × List MemPlace), DataW.trod enc P W base sp held n E cs = some x → (∀ b ∈ x.1.weights P E, b ≤ reachBytes) → ∃ g : α, cs = f g ∧ G g) {n : Nat} {cs : List Value} {x : DataW H × List MemPlace} (h : DataW.trod enc P W base sp held n T cs = some x) (hw : ∀ b ∈ x.1.weights P T, b ≤ reachBytes) :
    ∃ (a : Option Addr) (gs : List α) (cp : Nat), cs = [.slice a gs.length cp] ∧ OldSl W [] a gs.length sz (gs.flatMap f) ∧ gs.length ≤ 140737488355328 ∧ gs.length ≤ cp ∧ ∀ g ∈ gs, G g := by
  rcases open_slice hu h with ⟨rfl, rfl⟩ | ⟨a, len, cap, m, k, D, Pl, rfl, hb, hl, hm, hmm, rfl, hx⟩
  · exact ⟨none, [], 0, rfl, ⟨by simp, fun h => absurd h (Nat.lt_irrefl 0), fun j v hv => by simp at hv, fun h => absurd h (Nat.lt_irrefl 0)⟩, Nat.zero_le _, Nat.zero_le _, by simp⟩
  · have hml : len ≤ m := by rw [hmm]; split <;> omega
    rw [hc] at hx
    have hwt : ∀ b ∈ DataW.weights P T (.slice ((List.range len).map D) ((List.range (m - len)).map fun j => D (len + j))), b ≤ reachBytes := hw
    rw [DataW.weights] at hwt
    simp only [hu] at hwt
    have hwD : ∀ i, i < len → ∀ b ∈ (D i).weights P E, b ≤ reachBytes := fun i hi b hb =>
      hwt b (List.mem_cons_of_mem _ (List.mem_append_left _ (weightsAll_mem (List.mem_map.2 ⟨i, List.mem_range.2 hi, rfl⟩) b hb)))
    have hone : ∀ i, i < len → ∃ g : α, (∀ j v, (f g)[j]? = some v → W.cell? ((a.add (i * sz)).add j) = some v) ∧ G g := fun i hi => by
      obtain ⟨cs', h1, h2⟩ := hx i (by omega)
      obtain ⟨g, rfl, h3⟩ := hel _ _ _ h2 (hwD i hi)
      exact ⟨g, (cells_at h1).2, h3⟩
    obtain ⟨g, hg⟩ := choose_lt (α := α) (p := fun i g => (∀ j v, (f g)[j]? = some v → W.cell? ((a.add (i * sz)).add j) = some v) ∧ G g) hone
    refine ⟨some a, (List.range len).map g, cap, by simp, ⟨by rw [flat_len f sz hf], fun _ => rfl, fun j v hv => ?_, fun _ => by simp⟩, ?_, by simp only [List.length_map, List.length_range]; omega, fun q hq => ?_⟩
    · have hj : j < ((List.range len).map g).length * sz := by
        have := (List.getElem?_eq_some_iff.1 hv).1
        rwa [flat_len f sz hf] at this
      simp only [List.length_map, List.length_range] at hj
      have hi : j / sz < len := Nat.div_lt_of_lt_mul (by rw [Nat.mul_comm]; exact hj)
      have e : j = j / sz * sz + j % sz := (Nat.div_add_mod' j sz).symm
      have hget : ((List.range len).map g)[j / sz]? = some (g (j / sz)) := by simp [hi]
      have hv2 : (f (g (j / sz)))[j % sz]? = some v := by
        have hlt : j % sz < (f (g (j / sz))).length := by rw [hf]; exact Nat.mod_lt _ hsz
        have h5 := get_flat f sz hf hget (j := j % sz) (Nat.mod_lt _ hsz) (List.getElem?_eq_getElem hlt)
        rw [← e, hv] at h5
        rw [List.getElem?_eq_getElem hlt]
        exact h5.symm
      have := (hg (j / sz) hi).1 (j % sz) v hv2
      rw [Gv.add_add, ← e] at this
      exact this
    · have := hwt _ List.mem_cons_self
      simp only [List.length_map, List.length_range] at this ⊢
      rw [hB] at this
      have := reachBytes_lt
      have h9 : (len + (m - len)) * 8 ≤ (len + (m - len)) * bb := Nat.mul_le_mul_left _ hbb
      omega
    · obtain ⟨i, hi, rfl⟩ := List.mem_map.1 hq
      exact (hg i (List.mem_range.1 hi)).2
end
end Go.Sn
namespace Go.Sn
open Go.Gv
open Go.RowKit Go.Deep Go.ChangeShapes Go.WideShapes
/-! # Fields of a struct, opened one by one -/
def Hd.cells (h : Hd) : List Value := [.slice h.ka h.ks.length h.kc, .slice h.sa h.ss.length h.sc, .slice h.ca h.cs.length h.cc]
section
variable {P : Program} {H : Type} {enc : TypeId × Value → H} {W : World} {base : Nat} {sp : Nat → Bool} {held : Bool}
theorem fld {t : TypeId} {fs : Array Field} {n : Nat} {cs : List Value} {x : DataW H × List MemPlace} (ht : P.underlying t = some (.struct fs)) (h : DataW.trod enc P W base sp held n t cs = some x) (hw : ∀ b ∈ x.1.weights P t, b ≤ reachBytes) :
    ∃ k, cs.length = P.cellsOf t ∧ ∀ (i : Nat) (f : Field) (c : Nat), fs[i]? = some f → P.cellsOf f.type = c → ∃ y, DataW.trod enc P W base sp held k f.type ((cs.drop f.offset).take c) = some y ∧ ∀ b ∈ y.1.weights P f.type, b ≤ reachBytes := by
  obtain ⟨xs, k, _, rfl, hl, hlen, hf⟩ := DataW.trod_struct ht h
  refine ⟨k, hl, fun i f c hi hc => ?_⟩
  have hlt : i < fs.size := (Array.getElem?_eq_some_iff.1 hi).1
  have h1 := hf i f hi
  rw [hc, List.getElem?_eq_getElem (by omega)] at h1
  refine ⟨_, h1, fun b hb => hw b ?_⟩
  show b ∈ DataW.weights P t (.agg _)
  rw [DataW.weights]
  simp only [ht]
  refine DataW.weights_mem_each (j := i) (t := f.type) ?_ ?_ b hb
  · simp [hi]
  · rw [List.getElem?_map, List.getElem?_eq_getElem (by omega)]; rfl
theorem leafI {t : TypeId} {n : Nat} {v : Value} {x : DataW H × List MemPlace} (hu : P.underlying t = some (.int .i64)) (h : DataW.trod enc P W base sp held n t [v] = some x) : ∃ z : Int, v = .int .i64 z := by
  obtain ⟨z, e, _⟩ := DataW.trod_int hu h
  exact ⟨z, by simpa using e⟩
theorem leafS {t : TypeId} {n : Nat} {v : Value} {x : DataW H × List MemPlace} (hu : P.underlying t = some .string) (h : DataW.trod enc P W base sp held n t [v] = some x) (hw : ∀ b ∈ x.1.weights P t, b ≤ reachBytes) : ∃ z : ByteArray, v = .string z ∧ z.size ≤ 140737488355328 := by
  obtain ⟨z, e, rfl, _⟩ := DataW.trod_string hu h
  refine ⟨z, by simpa using e, ?_⟩
  have := hw z.data.toList.length (by rw [DataW.weights]; exact List.mem_singleton.2 rfl)
  have e2 : z.data.toList.length = z.size := by rw [Array.length_toList]; rfl
  have := reachBytes_lt
  omega
theorem len2 {cs : List Value} (h : cs.length = 2) : ∃ a b, cs = [a, b] := by
  match cs, h with
  | [a, b], _ => exact ⟨a, b, rfl⟩
theorem len4 {cs : List Value} (h : cs.length = 4) : ∃ a b c d, cs = [a, b, c, d] := by
  match cs, h with
  | [a, b, c, d], _ => exact ⟨a, b, c, d, rfl⟩
theorem flat_one {α : Type} (f : α → Value) (l : List α) : l.flatMap (fun x => [f x]) = l.map f := by
  induction l with
  | nil => rfl
  | cons x l ih => rw [List.flatMap_cons, ih]; rfl
end
end Go.Sn
