import Derived.WalkKit
import Derived.Still
import Derived.Laws.AppendOwn
import Derived.Laws.BitsLemmas
import Derived.OwnWalk
import Derived.Laws.MakeOwn
import Derived.Laws.Tables
import Derived.Laws.CopyRow
import Derived.MapKept
import Derived.Scope
import Derived.Lib.MakeNoZero
import Derived.Laws.BytesArg
import Derived.Laws.StructEq
import Derived.Lib.SlBytesConst
import Derived.Maps.RangeRun
import Derived.TacticsIn
import Derived.RangeFuncIn
import Derived.RangeFuncRecord
import Derived.RangeFuncLeaves
import Derived.RangeFuncSeq
import Derived.OrdersIn
import Derived.ChangeKeysEq
/- A part of the proof: rules for memory that a call owns. -/
set_option autoImplicit false
set_option linter.unusedSimpArgs false
set_option linter.unusedVariables false
set_option linter.unnecessarySimpa false
namespace Go.Gv
open Go.RowKit
/-! ## Frames -/
abbrev Env := List (Nat × Value)
def Env.get : Env → Nat → Option Value
  | [], _ => none
  | (j, v) :: e, i => match Nat.beq j i with | true => some v | false => Env.get e i
def Env.ev (e : Env) : Operand → Option Value
  | .tmp t => e.get t
  | .const v => some v
  | .global g => some (.pointer (some ⟨g, 0, none⟩))
  | .func f => some (.func (.func f) #[] #[])
def Env.evs (e : Env) : List Operand → Option (List Value)
  | [] => some []
  | x :: xs => match e.ev x with
    | some v => match e.evs xs with
      | some vs => some (v :: vs)
      | none => none
    | none => none
structure Sat (dm : List Deferred) (n : Nat) (a : Act) (e : Env) : Prop where
  size : a.tmps.size = n
  defers : a.defers = dm
  get : ∀ i v, e.get i = some v → a.tmps[i]? = some v
theorem Sat.ev {dm : List Deferred} {n : Nat} {a : Act} {e : Env} (h : Sat dm n a e) {x : Operand} {v : Value} (hx : e.ev x = some v) : a.eval x = v := by
  cases x with
  | tmp t => have := h.get t v hx; simp [Act.eval, Array.getD_eq_getD_getElem?, this]
  | const u => simpa [Env.ev, Act.eval] using hx
  | global g => simpa [Env.ev, Act.eval] using hx
  | func f => simpa [Env.ev, Act.eval] using hx
theorem Sat.evs {dm : List Deferred} {n : Nat} {a : Act} {e : Env} (h : Sat dm n a e) : ∀ {xs : List Operand} {vs : List Value}, e.evs xs = some vs → xs.map a.eval = vs
  | [], vs, hx => by simp [Env.evs] at hx; simp [hx]
  | x :: xs, vs, hx => by
    simp only [Env.evs] at hx
    split at hx
    · rename_i v hv
      split at hx
      · rename_i us hu
        simp at hx; subst hx
        simp [h.ev hv, h.evs hu]
      · cases hx
    · cases hx
theorem Env.get_cons (j : Nat) (v : Value) (e : Env) (i : Nat) : Env.get ((j, v) :: e) i = if j = i then some v else Env.get e i := by
  simp only [Env.get]
  by_cases h : j = i
  · subst h; simp
  · have : Nat.beq j i = false := by
      cases hb : Nat.beq j i with
      | true => exact absurd (Nat.eq_of_beq_eq_true hb) h
      | false => rfl
    simp [this, h]
theorem Sat.put {dm : List Deferred} {n : Nat} {a : Act} {e : Env} (h : Sat dm n a e) {d : Nat} (hd : d < n) (v : Value) : Sat dm n (a.put (some d) v) ((d, v) :: e) := by
  refine ⟨by simp [Act.put, h.size], by simp [Act.put, h.defers], fun i u hu => ?_⟩
  rw [Env.get_cons] at hu
  simp only [Act.put]
  by_cases hi : d = i
  · subst hi
    simp at hu; subst hu
    rw [Array.getElem?_setIfInBounds]
    simp [h.size, hd]
  · simp [hi] at hu
    rw [Array.getElem?_setIfInBounds_ne hi]
    exact h.get i u hu
/-- what may be forgotten, or put in another order -/
def Env.le : Env → Env → Prop
  | [], _ => True
  | (j, v) :: e, e' => e'.get j = some v ∧ Env.le e e'
theorem Env.le_get {e e' : Env} : Env.le e e' → ∀ i v, e.get i = some v → e'.get i = some v := by
  induction e with
  | nil => intro _ i v h; simp [Env.get] at h
  | cons p e ih =>
    obtain ⟨j, u⟩ := p
    intro h i v hv
    rw [Env.get_cons] at hv
    by_cases hi : j = i
    · subst hi; simp at hv; subst hv; exact h.1
    · simp [hi] at hv; exact ih h.2 i v hv
theorem Sat.le {dm : List Deferred} {n : Nat} {a : Act} {e e' : Env} (h : Sat dm n a e') (hl : Env.le e e') : Sat dm n a e := ⟨h.size, h.defers, fun i v hv => h.get i v (Env.le_get hl i v hv)⟩
/-! ## Memory of one's own -/
/-- which operations of a region have been listed: the bits of a number -/
def bm (n m : Nat) : Array Bool := ((List.range n).map m.testBit).toArray
inductive HL where
  | blk (b : Nat) (cs : List Value) (t : TypeId)
  | row (e : TypeId) (size : Nat) (a : Option Nat) (n cap : Nat) (xs : List Value)
  | obj (b : Nat) (o : Obj)
def HL.block : HL → Option Nat
  | .blk b _ _ => some b
  | .row _ _ a _ _ _ => a
  | .obj b _ => some b
/-- the slice value of a row -/
def rowA (a : Option Nat) : Option Addr := match a with | some g => some ⟨g, 0, none⟩ | none => none
def HL.holds (w : World) : HL → Prop
  | .blk b cs t => w.heap[b]? = some (.cells cs.toArray t (0, 0))
  | .row e size a n cap xs => xs.length = n * size ∧ match a with
    | none => n = 0 ∧ cap = 0
    | some g => ∃ cur, w.heap[g]? = some (.cells cur e (0, 0)) ∧ n ≤ cap ∧ cap ≤ maxLen ∧ cur.size = cap * size ∧ cur.toList.take (n * size) = xs
  | .obj b o => w.heap[b]? = some o
structure Own (w0 : World) (S : List Nat) (w : World) (l : List HL) : Prop where
  os : w.os = w0.os
  tape : w.tape = w0.tape
  output : w.output = w0.output
  size : w0.heap.size ≤ w.heap.size
  old : ∀ b, b < w0.heap.size → b ∉ S → w.heap[b]? = w0.heap[b]?
  holds : ∀ h ∈ l, h.holds w
  place : ∀ h ∈ l, ∀ b, h.block = some b → b ∈ S ∨ w0.heap.size ≤ b
  nodup : (l.filterMap HL.block).Nodup
theorem lt_size {w : World} {b : Nat} {o : Obj} (h : w.heap[b]? = some o) : b < w.heap.size := by
  rcases Nat.lt_or_ge b w.heap.size with h' | h'
  · exact h'
  · simp [Array.getElem?_eq_none h'] at h
theorem HL.holds_lt {w : World} {h : HL} (hh : h.holds w) {b : Nat} (hb : h.block = some b) : b < w.heap.size := by
  cases h with
  | blk b' cs t => simp [HL.block] at hb; subst hb; exact lt_size hh
  | obj b' o => simp [HL.block] at hb; subst hb; exact lt_size hh
  | row e size a n cap xs =>
    simp [HL.block] at hb; subst hb
    obtain ⟨_, cur, h1, _⟩ := hh
    exact lt_size h1
theorem HL.holds_of_block {w w' : World} {h : HL} (hh : h.holds w) (hb : ∀ b, h.block = some b → w'.heap[b]? = w.heap[b]?) : h.holds w' := by
  cases h with
  | blk b cs t => simp only [HL.holds] at *; rw [hb b rfl]; exact hh
  | obj b o => simp only [HL.holds] at *; rw [hb b rfl]; exact hh
  | row e size a n cap xs =>
    cases a with
    | none => exact hh
    | some g =>
      simp only [HL.holds] at *
      rw [hb g rfl]; exact hh
theorem Own.refl (w : World) : Own w [] w [] := ⟨rfl, rfl, rfl, Nat.le_refl _, fun _ _ _ => rfl, by simp, by simp, by simp⟩
theorem Own.below {w0 w : World} {l : List HL} (h : Own w0 [] w l) : Below w0.heap.size w0 w :=
  ⟨h.os, h.tape, h.output, h.size, fun k hk => h.old k hk (by simp)⟩
/-- an old cell, not among those that may be written -/
theorem Own.cellOld {w0 w : World} {S : List Nat} {l : List HL} (h : Own w0 S w l) {a : Addr} {v : Value} (ha : w0.cell? a = some v) (hS : a.block ∉ S) : w.cell? a = some v := by
  have hb : a.block < w0.heap.size := by
    unfold World.cell? at ha
    split at ha
    · rename_i hh; exact lt_size hh
    · cases ha
  rw [World.cell?_of_block (w := w0) (h.old _ hb hS)]; exact ha
/-- Ext: a world that comes of this one by calls and new blocks -/
theorem Own.ext {w0 w w' : World} {S : List Nat} {l : List HL} (h : Own w0 S w l) (hb : Below w.heap.size w w') : Own w0 S w' l :=
  ⟨hb.os.trans h.os, hb.tape.trans h.tape, hb.output.trans h.output, Nat.le_trans h.size hb.size,
   fun b hb1 hb2 => (hb.block b (Nat.lt_of_lt_of_le hb1 h.size)).trans (h.old b hb1 hb2),
   fun x hx => HL.holds_of_block (h.holds x hx) fun b hb' => hb.block b (HL.holds_lt (h.holds x hx) hb'),
   h.place, h.nodup⟩
theorem Own.drew {w0 w : World} {S : List Nat} {l : List HL} (h : Own w0 S w l) : Own w0 S { w with drawn := w.drawn + 1 } l :=
  h.ext ⟨rfl, rfl, rfl, Nat.le_refl _, fun _ _ => rfl⟩
/-- sublists by places -/
def pick (idx : List Nat) (l : List HL) : List HL := idx.filterMap fun i => l[i]?
theorem pick_mem {idx : List Nat} {l : List HL} {h : HL} (hh : h ∈ pick idx l) : h ∈ l := by
  simp only [pick, List.mem_filterMap] at hh
  obtain ⟨i, _, hi⟩ := hh
  exact List.mem_of_getElem? hi
theorem nodup_inj {l : List HL} (hn : (l.filterMap HL.block).Nodup) {i j : Nat} {x y : HL} {b : Nat} (hi : l[i]? = some x) (hj : l[j]? = some y)
    (hx : x.block = some b) (hy : y.block = some b) : i = j := by
  induction l generalizing i j with
  | nil => simp at hi
  | cons z l ih =>
    have mem : ∀ {k : Nat} {u : HL}, l[k]? = some u → u.block = some b → b ∈ l.filterMap HL.block := fun hk hu => List.mem_filterMap.2 ⟨_, List.mem_of_getElem? hk, hu⟩
    cases i with
    | zero =>
      cases j with
      | zero => rfl
      | succ j =>
        simp at hi hj; subst hi
        simp only [List.filterMap_cons, hx, List.nodup_cons] at hn
        exact absurd (mem hj hy) hn.1
    | succ i =>
      cases j with
      | zero =>
        simp at hi hj; subst hj
        simp only [List.filterMap_cons, hy, List.nodup_cons] at hn
        exact absurd (mem hi hx) hn.1
      | succ j =>
        simp at hi hj
        have hn' : (l.filterMap HL.block).Nodup := by
          simp only [List.filterMap_cons] at hn
          split at hn
          · exact hn
          · exact (List.nodup_cons.1 hn).2
        rw [ih hn' hi hj]
theorem pick_nodup {idx : List Nat} {l : List HL} (hi : idx.Nodup) (hn : (l.filterMap HL.block).Nodup) : ((pick idx l).filterMap HL.block).Nodup := by
  induction idx with
  | nil => simp [pick]
  | cons i idx ih =>
    have hi' := List.nodup_cons.1 hi
    have hp : pick (i :: idx) l = (match l[i]? with | some x => [x] | none => []) ++ pick idx l := by
      simp only [pick, List.filterMap_cons]; cases l[i]? <;> rfl
    rw [hp, List.filterMap_append]
    cases hx : l[i]? with
    | none => simpa using ih hi'.2
    | some x =>
      cases hb : x.block with
      | none => simpa [hb] using ih hi'.2
      | some b =>
        simp only [List.filterMap_cons, hb, List.filterMap_nil, List.singleton_append, List.nodup_cons]
        refine ⟨fun hm => ?_, ih hi'.2⟩
        obtain ⟨y, hy, hyb⟩ := List.mem_filterMap.1 hm
        simp only [pick, List.mem_filterMap] at hy
        obtain ⟨j, hj, hjy⟩ := hy
        have := nodup_inj hn hx hjy hb hyb
        subst this
        exact hi'.1 hj
theorem Own.pick {w0 w : World} {S : List Nat} {l : List HL} (h : Own w0 S w l) (idx : List Nat) (hi : idx.Nodup) : Own w0 S w (pick idx l) :=
  ⟨h.os, h.tape, h.output, h.size, h.old, fun x hx => h.holds x (pick_mem hx), fun x hx => h.place x (pick_mem hx), pick_nodup hi h.nodup⟩
/-- a part of what is owned -/
def Sub (l' l : List HL) : Prop := ∃ idx : List Nat, idx.Nodup ∧ l' = pick idx l
theorem Own.sub {w0 w : World} {S : List Nat} {l l' : List HL} (h : Own w0 S w l) (hs : Sub l' l) : Own w0 S w l' := by
  obtain ⟨idx, hi, rfl⟩ := hs; exact h.pick idx hi
theorem Sub.refl' (l : List HL) : Sub l l := by
  refine ⟨List.range l.length, List.nodup_range, ?_⟩
  simp only [Gv.pick]
  apply List.ext_getElem?
  intro i
  rw [show (List.range l.length).filterMap (fun i => l[i]?) = l from ?_]
  induction l with
  | nil => rfl
  | cons x l ih =>
    rw [List.length_cons, List.range_succ_eq_map, List.filterMap_cons]
    simp only [List.getElem?_cons_zero, List.filterMap_map]
    congr 1
/-! ### steps of memory -/
theorem Own.alloc {w0 w : World} {S : List Nat} {l : List HL} (h : Own w0 S w l) (x : HL) (o : Obj) (hx : x.block = some w.heap.size) (hh : x.holds (w.alloc o)) : Own w0 S (w.alloc o) (x :: l) := by
  have he : Own w0 S (w.alloc o) l := h.ext ((Below.refl _ w).alloc (Nat.le_refl _) o)
  refine ⟨he.os, he.tape, he.output, he.size, he.old, ?_, ?_, ?_⟩
  · intro y hy; rcases List.mem_cons.1 hy with rfl | hy
    · exact hh
    · exact he.holds y hy
  · intro y hy b hb; rcases List.mem_cons.1 hy with rfl | hy
    · rw [hx] at hb; cases hb; exact .inr h.size
    · exact he.place y hy b hb
  · simp only [List.filterMap_cons, hx, List.nodup_cons]
    refine ⟨fun hm => ?_, h.nodup⟩
    obtain ⟨y, hy, hyb⟩ := List.mem_filterMap.1 hm
    have := HL.holds_lt (h.holds y hy) hyb
    omega
theorem Own.newBlk {w0 w : World} {S : List Nat} {l : List HL} (h : Own w0 S w l) (cs : List Value) (t : TypeId) : Own w0 S (w.alloc (.cells cs.toArray t)) (.blk w.heap.size cs t :: l) :=
  h.alloc _ _ rfl (heap_alloc_new w _)
theorem mem_set {l : List HL} {i : Nat} {y z : HL} (h : z ∈ l.set i y) : z = y ∨ ∃ j, j ≠ i ∧ l[j]? = some z := by
  obtain ⟨j, hj⟩ := List.mem_iff_getElem?.1 h
  rw [List.getElem?_set] at hj
  by_cases hij : i = j
  · subst hij
    simp at hj
    exact .inl hj.2.symm
  · simp [hij] at hj; exact .inr ⟨j, fun e => hij e.symm, hj⟩
theorem nodup_set_aux {l : List HL} {i : Nat} {y : HL} (hn : (l.filterMap HL.block).Nodup) (hy : ∀ b, y.block = some b → ∀ j z, j ≠ i → l[j]? = some z → z.block ≠ some b) :
    ((l.set i y).filterMap HL.block).Nodup := by
  induction l generalizing i with
  | nil => simp
  | cons z l ih =>
    have hn' : (l.filterMap HL.block).Nodup := by
      simp only [List.filterMap_cons] at hn
      split at hn
      · exact hn
      · exact (List.nodup_cons.1 hn).2
    cases i with
    | zero =>
      simp only [List.set_cons_zero, List.filterMap_cons]
      cases hb : y.block with
      | none => exact hn'
      | some b =>
        refine List.nodup_cons.2 ⟨fun hm => ?_, hn'⟩
        obtain ⟨u, hu, hub⟩ := List.mem_filterMap.1 hm
        obtain ⟨j, hj⟩ := List.mem_iff_getElem?.1 hu
        exact hy b hb (j + 1) u (by omega) (by simpa using hj) hub
    | succ i =>
      have ih' := ih hn' (i := i) (fun b hb j u hji hj => hy b hb (j + 1) u (by omega) (by simpa using hj))
      simp only [List.set_cons_succ, List.filterMap_cons]
      cases hb : z.block with
      | none => exact ih'
      | some b =>
        refine List.nodup_cons.2 ⟨fun hm => ?_, ih'⟩
        obtain ⟨u, hu, hub⟩ := List.mem_filterMap.1 hm
        rcases mem_set hu with rfl | ⟨j, hji, hj⟩
        · exact hy b hub 0 z (by omega) rfl hb
        · have := nodup_inj hn (i := 0) (j := j + 1) rfl (by simpa using hj) hb hub
          omega
/-- one heaplet turns: blocks other than its own stay as they were -/
theorem Own.turn {w0 w w' : World} {S : List Nat} {l : List HL} (h : Own w0 S w l) {i : Nat} {x y : HL} (hi : l[i]? = some x)
    (hos : w'.os = w.os) (htape : w'.tape = w.tape) (hout : w'.output = w.output) (hsize : w.heap.size ≤ w'.heap.size)
    (hb : ∀ b, b < w.heap.size → x.block ≠ some b → w'.heap[b]? = w.heap[b]?) (hy : y.holds w') (hyb : ∀ b, y.block = some b → x.block = some b ∨ w.heap.size ≤ b) : Own w0 S w' (l.set i y) := by
  have hx : x ∈ l := List.mem_of_getElem? hi
  refine ⟨hos.trans h.os, htape.trans h.tape, hout.trans h.output, Nat.le_trans h.size hsize, ?_, ?_, ?_, ?_⟩
  · intro b h1 h2
    rw [hb b (Nat.lt_of_lt_of_le h1 h.size) (fun e => ?_), h.old b h1 h2]
    rcases h.place x hx b e with h3 | h3
    · exact h2 h3
    · omega
  · intro z hz
    rcases mem_set hz with rfl | ⟨j, hji, hj⟩
    · exact hy
    · have hzl := List.mem_of_getElem? hj
      refine HL.holds_of_block (h.holds z hzl) fun b hzb => hb b (HL.holds_lt (h.holds z hzl) hzb) fun e => ?_
      exact hji (nodup_inj h.nodup hj hi hzb e)
  · intro z hz b hzb
    rcases mem_set hz with rfl | ⟨j, hji, hj⟩
    · rcases hyb b hzb with h3 | h3
      · exact h.place x hx b h3
      · exact .inr (Nat.le_trans h.size h3)
    · exact h.place z (List.mem_of_getElem? hj) b hzb
  · refine nodup_set_aux h.nodup fun b hyb' j z hji hj hzb => ?_
    rcases hyb b hyb' with h3 | h3
    · exact hji (nodup_inj h.nodup hj hi hzb h3)
    · have := HL.holds_lt (h.holds z (List.mem_of_getElem? hj)) hzb
      omega
theorem Own.blkCell {w0 w : World} {S : List Nat} {l : List HL} (h : Own w0 S w l) (i : Nat) {b off : Nat} {cs : List Value} {t : TypeId} {v : Value} (hi : l[i]? = some (.blk b cs t)) (hv : cs[off]? = some v) :
    w.cell? ⟨b, off, none⟩ = some v := by
  have := h.holds _ (List.mem_of_getElem? hi)
  simp only [HL.holds] at this
  simp [World.cell?, this, hv]
theorem Own.storeBlk {w0 w : World} {S : List Nat} {l : List HL} (h : Own w0 S w l) {i : Nat} {b off : Nat} {cs : List Value} {t : TypeId} (hi : l[i]? = some (.blk b cs t)) (u : Value) :
    Own w0 S (w.setCell ⟨b, off, none⟩ u) (l.set i (.blk b (cs.set off u) t)) := by
  have hb := h.holds _ (List.mem_of_getElem? hi)
  simp only [HL.holds] at hb
  have hlt := lt_size hb
  refine h.turn hi rfl rfl rfl (by simp [World.setCell]) (fun k hk hne => Below.heap_setCell _ _ _ _ (fun e => hne (by simp [HL.block, e]))) ?_ (fun k hk => .inl hk)
  show (w.heap.modify b _)[b]? = _
  rw [Array.getElem?_eq_getElem (by simpa using hlt), Array.getElem_modify_self]
  have h' : w.heap[b] = .cells cs.toArray t (0, 0) := by simpa [Array.getElem?_eq_getElem hlt] using hb
  simp [h']
end Go.Gv
namespace Go.Gv
open Go.RowKit
/-! ## The judgement: from every frame that has these slots and every world that has this memory, K -/
def GK (dm : List Deferred) (n : Nat) (K : Act → World → Prop) (e : Env) (w0 : World) (S : List Nat) (l : List HL) : Prop :=
  ∀ a w, Sat dm n a e → Own w0 S w l → K a w
section
variable {dm : List Deferred} {P : Program} {n : Nat} {Q : Exit → Act → World → Prop} {K : Act → World → Prop} {e e' : Env} {w0 : World} {S : List Nat} {l l' : List HL}
theorem gk_env (e' : Env) (he : Env.le e' e) (h : GK dm n K e' w0 S l) : GK dm n K e w0 S l := fun a w hs ho => h a w (hs.le he) ho
/-- a nil slice owns nothing -/
theorem gk_nil (t : TypeId) (size : Nat) (h : GK dm n K e w0 S (.row t size none 0 0 [] :: l)) : GK dm n K e w0 S l :=
  fun a w hs ho => h a w hs ⟨ho.os, ho.tape, ho.output, ho.size, ho.old,
    fun x hx => by rcases List.mem_cons.1 hx with rfl | hx; exact ⟨by simp, rfl, rfl⟩; exact ho.holds x hx,
    fun x hx b hb => by rcases List.mem_cons.1 hx with rfl | hx; cases hb; exact ho.place x hx b hb,
    by have := ho.nodup; simp only [List.filterMap_cons, HL.block]; exact this⟩
/-- what is known of memory may be used -/
theorem gk_know {p : Prop} (hp : ∀ w, Own w0 S w l → p) (h : p → GK dm n K e w0 S l) : GK dm n K e w0 S l := fun a w hs ho => h (hp w ho) a w hs ho
theorem gk_dec {d : Nat} {p : Prop} [Decidable p] (h1 : p → GK dm n K ((d, .bool true) :: e) w0 S l) (h2 : ¬ p → GK dm n K ((d, .bool false) :: e) w0 S l) : GK dm n K ((d, .bool (decide p)) :: e) w0 S l := by
  by_cases h : p
  · rw [decide_eq_true h]; exact h1 h
  · rw [decide_eq_false h]; exact h2 h
theorem gk_bool {d : Nat} {b : Bool} (h1 : b = true → GK dm n K ((d, .bool true) :: e) w0 S l) (h2 : b = false → GK dm n K ((d, .bool false) :: e) w0 S l) : GK dm n K ((d, .bool b) :: e) w0 S l := by
  cases b
  · exact h2 rfl
  · exact h1 rfl
/-! ### control -/
theorem gc_seq {x y : Code} (h : GK dm n (x.wp P (Exit.then (y.wp P Q) Q)) e w0 S l) : GK dm n ((Code.seq x y).wp P Q) e w0 S l := fun a w hs ho => wp_seq (h a w hs ho)
theorem gc_block {id : Nat} {c : Code} (h : GK dm n (c.wp P (Exit.inBlock id Q)) e w0 S l) : GK dm n ((Code.block id c).wp P Q) e w0 S l := fun a w hs ho => wp_block (h a w hs ho)
theorem gc_skip (h : GK dm n (Q .normal) e w0 S l) : GK dm n (Code.skip.wp P Q) e w0 S l := fun a w hs ho => wp_skip (h a w hs ho)
theorem gc_exit {id : Nat} (h : GK dm n (Q (.exit id)) e w0 S l) : GK dm n ((Code.exit id).wp P Q) e w0 S l := fun a w hs ho => wp_exit (h a w hs ho)
theorem gc_ret (h : GK dm n (Q .ret) e w0 S l) : GK dm n (Code.ret.wp P Q) e w0 S l := fun a w hs ho => wp_ret (h a w hs ho)
theorem gc_region {id : Nat} {ops : List Oper} (h : GK dm n (wpList P ops.toArray Q ops) e w0 S l) : GK dm n ((Code.region id ops.toArray false).wp P Q) e w0 S l := fun a w hs ho => wp_region_lit (h a w hs ho)
theorem gc_cond {c : Operand} {x y : Code} {t : Bool} (hc : e.ev c = some (.bool t)) (ht : t = true → GK dm n (x.wp P Q) e w0 S l) (hf : t = false → GK dm n (y.wp P Q) e w0 S l) :
    GK dm n ((Code.cond c x y).wp P Q) e w0 S l := fun a w hs ho => wp_cond_split (hs.ev hc) (fun h => ht h a w hs ho) (fun h => hf h a w hs ho)
theorem gc_cond_t {c : Operand} {x y : Code} (hc : e.ev c = some (.bool true)) (ht : GK dm n (x.wp P Q) e w0 S l) : GK dm n ((Code.cond c x y).wp P Q) e w0 S l := fun a w hs ho => wp_cond_true (hs.ev hc) (ht a w hs ho)
theorem gc_cond_f {c : Operand} {x y : Code} (hc : e.ev c = some (.bool false)) (ht : GK dm n (y.wp P Q) e w0 S l) : GK dm n ((Code.cond c x y).wp P Q) e w0 S l := fun a w hs ho => wp_cond_false (hs.ev hc) (ht a w hs ho)
/-- through the frames of the control -/
theorem gx_then {K : Act → World → Prop} (h : GK dm n K e w0 S l) : GK dm n (Exit.then K Q .normal) e w0 S l := h
theorem gx_then_exit {K : Act → World → Prop} {id : Nat} (h : GK dm n (Q (.exit id)) e w0 S l) : GK dm n (Exit.then K Q (.exit id)) e w0 S l := h
theorem gx_then_ret {K : Act → World → Prop} (h : GK dm n (Q .ret) e w0 S l) : GK dm n (Exit.then K Q .ret) e w0 S l := h
theorem gx_block {id : Nat} (h : GK dm n (Q .normal) e w0 S l) : GK dm n (Exit.inBlock id Q .normal) e w0 S l := h
theorem gx_block_ret {id : Nat} (h : GK dm n (Q .ret) e w0 S l) : GK dm n (Exit.inBlock id Q .ret) e w0 S l := h
theorem gx_block_exit {id : Nat} (h : GK dm n (Q .normal) e w0 S l) : GK dm n (Exit.inBlock id Q (.exit id)) e w0 S l := by
  intro a w hs ho; simp only [Exit.inBlock, if_true]; exact h a w hs ho
theorem gx_block_pass {id id' : Nat} (hne : Nat.beq id' id = false) (h : GK dm n (Q (.exit id')) e w0 S l) : GK dm n (Exit.inBlock id Q (.exit id')) e w0 S l := by
  intro a w hs ho
  have : id' ≠ id := fun h => by subst h; simp at hne
  simp only [Exit.inBlock, this, if_false]; exact h a w hs ho
/-- a piece of code may be closed off: what it leaves -/
theorem gc_cut {c : Code} {K : Act → World → Prop} {ι : Type} (p : ι → Prop) (E : ι → Env) (L : ι → List HL)
    (h1 : GK dm n (c.wp P (Exit.then (fun a w => ∃ j, p j ∧ Sat dm n a (E j) ∧ Own w0 S w (L j)) Q)) e w0 S l) (h2 : ∀ j, p j → GK dm n K (E j) w0 S (L j)) :
    GK dm n (c.wp P (Exit.then K Q)) e w0 S l := fun a w hs ho =>
  Code.wp_mono (fun x a' w' hq => by
    cases x with
    | normal => obtain ⟨j, hp, h3, h4⟩ := hq; exact h2 j hp a' w' h3 h4
    | _ => exact hq) (h1 a w hs ho)
theorem gx_cut {ι : Type} {p : ι → Prop} {E : ι → Env} {L : ι → List HL} (j : ι) (hp : p j) (he : Env.le (E j) e) (hl : Sub (L j) l) :
    GK dm n (fun a w => ∃ j, p j ∧ Sat dm n a (E j) ∧ Own w0 S w (L j)) e w0 S l := fun a w hs ho => ⟨j, hp, hs.le he, ho.sub hl⟩
/-- the loop -/
theorem gc_loop {c : Code} {ι : Type} (p : ι → Prop) (E : ι → Env) (L : ι → List HL) (m : ι → Nat) (j0 : ι) (hp : p j0) (he : Env.le (E j0) e) (hl : Sub (L j0) l)
    (body : ∀ j, p j → GK dm n (c.wp P (Exit.then (fun a w => ∃ j', (p j' ∧ m j' < m j) ∧ Sat dm n a (E j') ∧ Own w0 S w (L j')) Q)) (E j) w0 S (L j)) :
    GK dm n ((Code.loop c).wp P Q) e w0 S l := by
  intro a w hs ho b kk cs
  have key : ∀ k : Nat, ∀ (j : ι), m j = k → p j → ∀ a w, Sat dm n a (E j) → Own w0 S w (L j) →
      ∃ x a' w', Q x a' w' ∧ Arrives P (lone (b.at a (.code c :: .inLoop c :: kk)) cs w) b kk cs x a' w' := by
    intro k
    induction k using Nat.strongRecOn with
    | _ k ih =>
      intro j hk hpj a w hs ho
      obtain ⟨x, a1, w1, hq, harr⟩ := body j hpj a w hs ho b (.inLoop c :: kk) cs
      cases x with
      | normal =>
        obtain ⟨j', ⟨hp', hlt⟩, hs', ho'⟩ := hq
        obtain ⟨x2, a2, w2, hq2, harr2⟩ := ih (m j') (hk ▸ hlt) j' rfl hp' a1 w1 hs' ho'
        exact ⟨x2, a2, w2, hq2, .of_steps (Steps.trans harr (.one step_inLoop)) harr2⟩
      | exit id => exact ⟨_, a1, w1, hq, .pass (x := .inLoop c) rfl (fun _ _ => .inl (by simp)) harr⟩
      | goto id => exact ⟨_, a1, w1, hq, .pass (x := .inLoop c) rfl (fun _ _ => .inl (by simp)) harr⟩
      | ret => exact ⟨_, a1, w1, hq, .pass (x := .inLoop c) rfl (fun _ _ => .inl (by simp)) harr⟩
      | panic ch => exact ⟨_, a1, w1, hq, .pass (x := .inLoop c) rfl (fun _ _ => .inl (by simp)) harr⟩
      | outgrown => exact ⟨_, a1, w1, hq, .pass (x := .inLoop c) rfl (fun _ _ => .inl (by simp)) harr⟩
  obtain ⟨x, a', w', hq, harr⟩ := key _ j0 rfl hp a w (hs.le he) (ho.sub hl)
  exact ⟨x, a', w', hq, .of_steps (.one step_loop) harr⟩
end
end Go.Gv
namespace Go.Gv
open Go.RowKit
/-! ## Reading operations: one value, the very world -/
def Rd (P : Program) (dm : List Deferred) (n : Nat) (e : Env) (w0 : World) (S : List Nat) (l : List HL) (o : Oper) (v : Value) : Prop :=
  ∀ a w, Sat dm n a e → Own w0 S w l → (execOp a.eval o).run P w = .ok (.value v) w
section
variable {dm : List Deferred} {P : Program} {n : Nat} {e : Env} {w0 : World} {S : List Nat} {l : List HL} {dst : Option Tmp} {ty : TypeId} {pos : String} {aft : Array Edge} {gd : Option (Nat × Bool)}
theorem rd_move {x : Operand} {v : Value} (hx : e.ev x = some v) : Rd P dm n e w0 S l ⟨dst, .move x, ty, pos, aft, gd⟩ v :=
  fun a w hs ho => by simp [execOp, hs.ev hx]
theorem rd_assign {x : Operand} {v : Value} (hx : e.ev x = some v) : Rd P dm n e w0 S l ⟨dst, .assign x, ty, pos, aft, gd⟩ v :=
  fun a w hs ho => by simp [execOp, hs.ev hx]
theorem rd_pick_t {c x y : Operand} {v : Value} (hc : e.ev c = some (.bool true)) (hx : e.ev x = some v) : Rd P dm n e w0 S l ⟨dst, .pick c x y, ty, pos, aft, gd⟩ v :=
  fun a w hs ho => by simp [execOp, hs.ev hc, hs.ev hx, asBool]
theorem rd_pick_f {c x y : Operand} {v : Value} (hc : e.ev c = some (.bool false)) (hx : e.ev y = some v) : Rd P dm n e w0 S l ⟨dst, .pick c x y, ty, pos, aft, gd⟩ v :=
  fun a w hs ho => by simp [execOp, hs.ev hc, hs.ev hx, asBool]
theorem rd_nilCheck {x : Operand} {ad : Addr} (hx : e.ev x = some (.pointer (some ad))) : Rd P dm n e w0 S l ⟨dst, .nilCheck x, ty, pos, aft, gd⟩ (.pointer (some ad)) :=
  fun a w hs ho => by simp [execOp, hs.ev hx]
theorem rd_extract {x : Operand} {i : Nat} {vs : Array Value} {v : Value} (hx : e.ev x = some (.tuple vs)) (hv : vs[i]? = some v) : Rd P dm n e w0 S l ⟨dst, .extract x i, ty, pos, aft, gd⟩ v :=
  fun a w hs ho => by simp [execOp, hs.ev hx, Instr.extract, hv]
/-! ### integers -/
theorem run_binInt (op : BinOp) (t : TypeId) (x y : Operand) (k : IntKind) (a b : Int) (w : World) (hop : op ≠ .shl ∧ op ≠ .shr) :
    (do eqGuard op t x y (.int k a) (.int k b); binOp op t (.int k a) (.int k b) : Sem Value).run P w = (match op with
    | .add | .sub | .mul => Op.intArith op k a b
    | .quo | .rem => Op.intDiv op k a b
    | .and | .or | .xor | .andNot => Op.intBits op k a b
    | _ => Op.intCmp op a b).run P w := by
  obtain ⟨h1, h2⟩ := hop
  cases op <;> simp [eqGuard, binOp, pure] at * <;> rfl
theorem rd_bin {op : BinOp} {t ty' : TypeId} {x y : Operand} {k : IntKind} {p q : Int} {v : Value} (hx : e.ev x = some (.int k p)) (hy : e.ev y = some (.int k q)) (hop : op ≠ .shl ∧ op ≠ .shr)
    (hv : ∀ w, (match op with
    | .add | .sub | .mul => Op.intArith op k p q
    | .quo | .rem => Op.intDiv op k p q
    | .and | .or | .xor | .andNot => Op.intBits op k p q
    | _ => Op.intCmp op p q).run P w = .ok v w) : Rd P dm n e w0 S l ⟨dst, .binOp op t x y ty', ty, pos, aft, gd⟩ v :=
  fun a w hs ho => by
    have := run_binInt (P := P) op t x y k p q w hop
    simp only [execOp, hs.ev hx, hs.ev hy, Sem.run_bind] at *
    rw [this, hv]; rfl
theorem wrap64_ok {z : Int} (h1 : -9223372036854775808 ≤ z) (h2 : z ≤ 9223372036854775807) : IntKind.i64.wrap z = z := by
  rw [IntKind.wrap_i64]; omega
variable {t ty' : TypeId} {x y : Operand} {k : IntKind} {p q : Int}
theorem rd_add (hx : e.ev x = some (.int .i64 p)) (hy : e.ev y = some (.int .i64 q)) (h1 : -9223372036854775808 ≤ p + q) (h2 : p + q ≤ 9223372036854775807) : Rd P dm n e w0 S l ⟨dst, .binOp .add t x y ty', ty, pos, aft, gd⟩ (.int .i64 (p + q)) :=
  rd_bin hx hy (by decide) fun w => by simp [Op.intArith, wrap64_ok h1 h2]
theorem rd_sub (hx : e.ev x = some (.int .i64 p)) (hy : e.ev y = some (.int .i64 q)) (h1 : -9223372036854775808 ≤ p - q) (h2 : p - q ≤ 9223372036854775807) : Rd P dm n e w0 S l ⟨dst, .binOp .sub t x y ty', ty, pos, aft, gd⟩ (.int .i64 (p - q)) :=
  rd_bin hx hy (by decide) fun w => by simp [Op.intArith, wrap64_ok h1 h2]
theorem rd_rem (hx : e.ev x = some (.int k p)) (hy : e.ev y = some (.int k q)) (h0 : 0 ≤ p) (hq : 1 ≤ q) : Rd P dm n e w0 S l ⟨dst, .binOp .rem t x y ty', ty, pos, aft, gd⟩ (.int k (p % q)) :=
  rd_bin hx hy (by decide) fun w => by
    have h3 : p.tmod q = p % q := by rw [Int.tmod_eq_emod_of_nonneg h0]
    simp [Op.intDiv, show ¬ q = 0 by omega, h3]
theorem rd_eql (hx : e.ev x = some (.int k p)) (hy : e.ev y = some (.int k q)) : Rd P dm n e w0 S l ⟨dst, .binOp .eql t x y ty', ty, pos, aft, gd⟩ (.bool (decide (p = q))) :=
  rd_bin hx hy (by decide) fun w => by simp only [Op.intCmp]; rfl
theorem rd_neq (hx : e.ev x = some (.int k p)) (hy : e.ev y = some (.int k q)) : Rd P dm n e w0 S l ⟨dst, .binOp .neq t x y ty', ty, pos, aft, gd⟩ (.bool (decide (p ≠ q))) :=
  rd_bin hx hy (by decide) fun w => by
    have : decide (p ≠ q) = (p != q) := by rw [Bool.eq_iff_iff]; simp
    simp only [Op.intCmp, this]; rfl
theorem rd_lss (hx : e.ev x = some (.int k p)) (hy : e.ev y = some (.int k q)) : Rd P dm n e w0 S l ⟨dst, .binOp .lss t x y ty', ty, pos, aft, gd⟩ (.bool (decide (p < q))) :=
  rd_bin hx hy (by decide) fun w => by simp [Op.intCmp]
theorem rd_leq (hx : e.ev x = some (.int k p)) (hy : e.ev y = some (.int k q)) : Rd P dm n e w0 S l ⟨dst, .binOp .leq t x y ty', ty, pos, aft, gd⟩ (.bool (decide (p ≤ q))) :=
  rd_bin hx hy (by decide) fun w => by simp [Op.intCmp]
theorem rd_gtr (hx : e.ev x = some (.int k p)) (hy : e.ev y = some (.int k q)) : Rd P dm n e w0 S l ⟨dst, .binOp .gtr t x y ty', ty, pos, aft, gd⟩ (.bool (decide (q < p))) :=
  rd_bin hx hy (by decide) fun w => by simp [Op.intCmp]
theorem rd_geq (hx : e.ev x = some (.int k p)) (hy : e.ev y = some (.int k q)) : Rd P dm n e w0 S l ⟨dst, .binOp .geq t x y ty', ty, pos, aft, gd⟩ (.bool (decide (q ≤ p))) :=
  rd_bin hx hy (by decide) fun w => by simp [Op.intCmp]
theorem rd_not {b : Bool} (hx : e.ev x = some (.bool b)) : Rd P dm n e w0 S l ⟨dst, .unOp .not t x, ty, pos, aft, gd⟩ (.bool (!b)) :=
  fun a w hs ho => by simp [execOp, hs.ev hx, Op.unary]
/-- bools -/
theorem run_equalInBool (d : Nat) (hu : ∀ w, (underlying t).run P w = .ok .bool w) (b c : Bool) (w : World) : (Op.equalIn (d + 1) t (.bool b) (.bool c)).run P w = .ok (b == c) w := by
  simp only [Op.equalIn, Sem.run_bind, hu, Result.andThen_ok]; rfl
theorem run_equalBool (hu : ∀ w, (underlying t).run P w = .ok .bool w) (b c : Bool) (w : World) : (Op.equal t (.bool b) (.bool c)).run P w = .ok (b == c) w := run_equalInBool 9999 hu b c w
theorem rd_eqlb {b c : Bool} (hu : ∀ w, (underlying t).run P w = .ok .bool w) (hx : e.ev x = some (.bool b)) (hy : e.ev y = some (.bool c)) : Rd P dm n e w0 S l ⟨dst, .binOp .eql t x y ty', ty, pos, aft, gd⟩ (.bool (b == c)) :=
  fun a w hs ho => by
    have h := run_equalBool hu b c w
    simp only [execOp, hs.ev hx, hs.ev hy, eqGuard, binOp, Sem.run_bind, Bool.not_true, Bool.false_eq_true, if_false, Sem.run_pure, Result.andThen_ok, h]
theorem rd_neqb {b c : Bool} (hu : ∀ w, (underlying t).run P w = .ok .bool w) (hx : e.ev x = some (.bool b)) (hy : e.ev y = some (.bool c)) : Rd P dm n e w0 S l ⟨dst, .binOp .neq t x y ty', ty, pos, aft, gd⟩ (.bool (b != c)) :=
  fun a w hs ho => by
    have h := run_equalBool hu b c w
    simp only [execOp, hs.ev hx, hs.ev hy, eqGuard, binOp, Sem.run_bind, Bool.not_true, Bool.false_eq_true, if_false, Sem.run_pure, Result.andThen_ok, h]; rfl
/-- int to int -/
theorem rd_conv {src d : TypeId} {sd : TypeDesc} {k' : IntKind} {r : Int} (h1 : ∀ w, (underlying src).run P w = .ok sd w) (h2 : ∀ w, (underlying d).run P w = .ok (.int k') w) (hx : e.ev x = some (.int k p)) (hr : k'.wrap p = r) :
    Rd P dm n e w0 S l ⟨dst, .convert src d x, ty, pos, aft, gd⟩ (.int k' r) :=
  fun a w hs ho => by subst hr; cases sd <;> simp [execOp, hs.ev hx, convert, h1, h2, Conv.intToInt]
end
end Go.Gv
namespace Go.Gv
open Go.RowKit
/-! ## What the table of types says -/
structure TyF (P : Program) (E : TypeId) (z : Value) (size bytes : Nat) : Prop where
  ex : ∃ i, P.info? E = some i ∧ i.zero = some z ∧ i.size = size ∧ i.bytes = bytes
theorem TyF.mk' {P : Program} {E : TypeId} {z : Value} {size bytes : Nat} (h : (P.info? E).map (fun i => (i.zero, i.size, i.bytes)) = some (some z, size, bytes)) : TyF P E z size bytes := ⟨info_parts h⟩
theorem TyF.runZero {P : Program} {E : TypeId} {z : Value} {size bytes : Nat} (h : TyF P E z size bytes) (w : World) : (zeroValue E).run P w = .ok z w := by
  obtain ⟨i, h1, h2, h3, h4⟩ := h.ex
  simp [zeroValue, typeInfo, h1, h2]
theorem TyF.runSize {P : Program} {E : TypeId} {z : Value} {size bytes : Nat} (h : TyF P E z size bytes) (w : World) : (sizeOf E).run P w = .ok size w := by
  obtain ⟨i, h1, h2, h3, h4⟩ := h.ex
  simp [sizeOf, typeInfo, h1, h3]
/-- is a value of this type one cell? -/
def isAggD : TypeDesc → Bool
  | .struct _ | .array _ _ => true
  | _ => false
theorem run_isAgg {P : Program} {t : TypeId} {d : TypeDesc} (hu : P.underlying t = some d) (w : World) : (isAgg t).run P w = .ok (isAggD d) w := by
  cases d <;> simp [isAgg, run_underlying hu, isAggD]
/-! ## cells -/
def Cells (w : World) (a : Addr) (cs : List Value) : Prop := ∀ j v, cs[j]? = some v → w.cell? (a.add j) = some v
theorem add_add (a : Addr) (m k : Nat) : (a.add m).add k = a.add (m + k) := by
  simp only [Addr.add]
  by_cases h1 : m = 0
  · subst h1; simp
  · by_cases h2 : k = 0
    · subst h2; simp [h1]
    · simp [h1, h2, show ¬ (m + k = 0) by omega, Nat.add_assoc]
section
variable {dm : List Deferred} {P : Program} {n : Nat} {e : Env} {w0 : World} {S : List Nat} {l : List HL} {dst : Option Tmp} {ty : TypeId} {pos : String} {aft : Array Edge} {gd : Option (Nat × Bool)}
theorem ld_blk (i : Nat) {b off : Nat} {cs : List Value} {t : TypeId} {v : Value} (hi : l[i]? = some (.blk b cs t)) (hv : cs[off]? = some v) : ∀ w, Own w0 S w l → w.cell? ⟨b, off, none⟩ = some v :=
  fun w ho => ho.blkCell i hi hv
theorem Own.rowCell {w : World} (ho : Own w0 S w l) (i : Nat) {E : TypeId} {sz : Nat} {a : Option Nat} {m cap : Nat} {xs : List Value} {off : Nat} {v : Value} (hi : l[i]? = some (.row E sz a m cap xs)) (hv : xs[off]? = some v) : w.cell? ⟨a.getD 0, off, none⟩ = some v := by
  have hh := ho.holds _ (List.mem_of_getElem? hi)
  obtain ⟨h1, h2⟩ := hh
  cases a with
  | none =>
    obtain ⟨rfl, _⟩ := h2
    simp at h1; subst h1; simp at hv
  | some g =>
    obtain ⟨cur, h3, h4, h5, h6, h7⟩ := h2
    subst h7
    rw [List.getElem?_take] at hv
    split at hv
    · simp [World.cell?, h3]; simpa using hv
    · cases hv
theorem ld_row (i : Nat) {E : TypeId} {sz : Nat} {a : Option Nat} {m cap : Nat} {xs : List Value} {off : Nat} {v : Value} (hi : l[i]? = some (.row E sz a m cap xs)) (hv : xs[off]? = some v) : ∀ w, Own w0 S w l → w.cell? ⟨a.getD 0, off, none⟩ = some v :=
  fun w ho => ho.rowCell i hi hv
/-! ## reading memory -/
theorem rd_load {t : TypeId} {x : Operand} {ad : Addr} {v : Value} {d : TypeDesc} (hu : P.underlying t = some d) (hd : isAggD d = false) (hx : e.ev x = some (.pointer (some ad))) (hc : ∀ w, Own w0 S w l → w.cell? ad = some v) :
    Rd P dm n e w0 S l ⟨dst, .load t x, ty, pos, aft, gd⟩ v :=
  fun a w hs ho => by
    have h1 := run_isAgg hu w
    rw [hd] at h1
    simp [execOp, hs.ev hx, Instr.loadAt, Instr.sureAddr, loadVar, h1, load, Sem.run, hc w ho]
theorem rd_loadAgg {t : TypeId} {x : Operand} {ad : Addr} {vs : List Value} {d : TypeDesc} {z : Value} {size bytes : Nat} (hu : P.underlying t = some d) (hd : isAggD d = true) (ht : TyF P t z size bytes) (hx : e.ev x = some (.pointer (some ad)))
    (hc : ∀ w, Own w0 S w l → Cells w ad vs) (hl : vs.length = size) : Rd P dm n e w0 S l ⟨dst, .load t x, ty, pos, aft, gd⟩ (.agg vs.toArray) :=
  fun a w hs ho => by
    have h1 := run_isAgg hu w
    rw [hd] at h1
    have h2 := run_loadCells_list (P := P) w ad vs (hc w ho)
    rw [hl] at h2
    simp [execOp, hs.ev hx, Instr.loadAt, Instr.sureAddr, loadVar, h1, ht.runSize, h2]
theorem rd_fieldAddr {t : TypeId} {f : Nat} {x : Operand} {ad ad' : Addr} (hx : e.ev x = some (.pointer (some ad))) (hf : ∀ w, (Instr.fieldAt t (.pointer (some ad)) f).run P w = .ok (.pointer (some ad')) w) :
    Rd P dm n e w0 S l ⟨dst, .fieldAddr t x f, ty, pos, aft, gd⟩ (.pointer (some ad')) :=
  fun a w hs ho => by simp [execOp, hs.ev hx, hf]
theorem run_indexAt {t E : TypeId} {z : Value} {size bytes : Nat} (hu : P.underlying t = some (.slice E)) (ht : TyF P E z size bytes) (ad : Addr) (m cap : Nat) (k : IntKind) (i : Int) (h0 : 0 ≤ i) (h1 : i < m) (w : World) :
    (Instr.indexAt t (.slice (some ad) m cap) (.int k i)).run P w = .ok (.pointer (some (ad.add (i.toNat * size)))) w := by
  simp [Instr.indexAt, asIntOf, run_underlying hu, h0, h1, ht.runSize]
/-- an address in a slice that came in -/
theorem rd_index {t E : TypeId} {z : Value} {size bytes : Nat} {x y : Operand} {ad : Addr} {m cap : Nat} {k : IntKind} {i : Int} (hu : P.underlying t = some (.slice E)) (ht : TyF P E z size bytes) (hx : e.ev x = some (.slice (some ad) m cap)) (hy : e.ev y = some (.int k i)) (h0 : 0 ≤ i) (h1 : i < m) :
    Rd P dm n e w0 S l ⟨dst, .indexAddr t x y, ty, pos, aft, gd⟩ (.pointer (some (ad.add (i.toNat * size)))) :=
  fun a w hs ho => by simp [execOp, hs.ev hx, hs.ev hy, run_indexAt hu ht ad m cap k i h0 h1]
theorem rd_index1 {t E : TypeId} {z : Value} {bytes : Nat} {x y : Operand} {ad : Addr} {m cap : Nat} {k : IntKind} {i : Int} (hu : P.underlying t = some (.slice E)) (ht : TyF P E z 1 bytes) (hx : e.ev x = some (.slice (some ad) m cap)) (hy : e.ev y = some (.int k i)) (h0 : 0 ≤ i) (h1 : i < m) :
    Rd P dm n e w0 S l ⟨dst, .indexAddr t x y, ty, pos, aft, gd⟩ (.pointer (some (ad.add i.toNat))) := by
  have h := rd_index (dst := dst) (ty := ty) (pos := pos) (aft := aft) (gd := gd) (dm := dm) (n := n) (w0 := w0) (S := S) (l := l) hu ht hx hy h0 h1
  rwa [Nat.mul_one] at h
/-- an address in a row of one's own -/
theorem rd_indexRow (j : Nat) {t E E' : TypeId} {z : Value} {size bytes sz : Nat} {x y : Operand} {r : Option Nat} {m cap : Nat} {xs : List Value} {k : IntKind} {i : Int} (hj : l[j]? = some (.row E' sz r m cap xs)) (hu : P.underlying t = some (.slice E)) (ht : TyF P E z size bytes) (hx : e.ev x = some (.slice (rowA r) m cap)) (hy : e.ev y = some (.int k i)) (h0 : 0 ≤ i) (h1 : i < m) :
    Rd P dm n e w0 S l ⟨dst, .indexAddr t x y, ty, pos, aft, gd⟩ (.pointer (some ⟨r.getD 0, i.toNat * size, none⟩)) :=
  fun a w hs ho => by
    cases r with
    | none =>
      have := (ho.holds _ (List.mem_of_getElem? hj)).2.1
      omega
    | some g =>
      have h2 := run_indexAt hu ht ⟨g, 0, none⟩ m cap k i h0 h1 w
      rw [Addr.add_lit, Nat.zero_add] at h2
      simp [execOp, hs.ev hx, hs.ev hy, rowA, h2]
theorem rd_indexRow1 (j : Nat) {t E E' : TypeId} {z : Value} {bytes sz : Nat} {x y : Operand} {r : Option Nat} {m cap : Nat} {xs : List Value} {k : IntKind} {i : Int} (hj : l[j]? = some (.row E' sz r m cap xs)) (hu : P.underlying t = some (.slice E)) (ht : TyF P E z 1 bytes) (hx : e.ev x = some (.slice (rowA r) m cap)) (hy : e.ev y = some (.int k i)) (h0 : 0 ≤ i) (h1 : i < m) :
    Rd P dm n e w0 S l ⟨dst, .indexAddr t x y, ty, pos, aft, gd⟩ (.pointer (some ⟨r.getD 0, i.toNat, none⟩)) := by
  have h := rd_indexRow (dst := dst) (ty := ty) (pos := pos) (aft := aft) (gd := gd) (dm := dm) (n := n) (w0 := w0) (S := S) j hj hu ht hx hy h0 h1
  rwa [Nat.mul_one] at h
theorem rd_lenSlice {E t : TypeId} {x : Operand} {a : Option Addr} {m cap : Nat} (hu : P.underlying t = some (.slice E)) (hx : e.ev x = some (.slice a m cap)) :
    Rd P dm n e w0 S l ⟨dst, .call { callee := .builtin .len, args := #[x], argTypes := #[t] }, ty, pos, aft, gd⟩ (.int .i64 m) :=
  fun ac w hs ho => by simp [execOp, resolve, invoke, builtin, Builtin.len_, run_underlying hu, hs.ev hx, goInt]
theorem rd_lenString {t : TypeId} {x : Operand} {s : ByteArray} (hu : P.underlying t = some .string) (hx : e.ev x = some (.string s)) :
    Rd P dm n e w0 S l ⟨dst, .call { callee := .builtin .len, args := #[x], argTypes := #[t] }, ty, pos, aft, gd⟩ (.int .i64 s.size) :=
  fun ac w hs ho => by simp [execOp, resolve, invoke, builtin, Builtin.len_, run_underlying hu, hs.ev hx, goInt]
def Env.evp (e : Env) : List (Nat × Operand) → Option (List (Nat × Value))
  | [] => some []
  | (i, x) :: xs => match e.ev x with
    | some v => match e.evp xs with
      | some vs => some ((i, v) :: vs)
      | none => none
    | none => none
theorem Sat.evp {a : Act} (h : Sat dm n a e) : ∀ {xs : List (Nat × Operand)} {vs : List (Nat × Value)}, e.evp xs = some vs → xs.map (fun (i, x) => (i, a.eval x)) = vs
  | [], vs, hx => by simp [Env.evp] at hx; simp [hx]
  | (i, x) :: xs, vs, hx => by
    simp only [Env.evp] at hx
    split at hx
    · rename_i v hv
      split at hx
      · rename_i us hu
        simp at hx; subst hx
        simp [h.ev hv, h.evp hu]
      · cases hx
    · cases hx
theorem rd_build {t : TypeId} {ps : List (Nat × Operand)} {vs : List (Nat × Value)} {v : Value} (hp : e.evp ps = some vs) (hb : ∀ w, (Instr.build t vs.toArray).run P w = .ok v w) :
    Rd P dm n e w0 S l ⟨dst, .build t ps.toArray, ty, pos, aft, gd⟩ v :=
  fun a w hs ho => by
    have := hs.evp hp
    simp only [execOp, List.map_toArray, Sem.run_bind]
    rw [this, hb]; rfl
theorem rd_makeFunc {fn : Fn} {fs cs : List Operand} {vf vc : List Value} (hf : e.evs fs = some vf) (hc : e.evs cs = some vc) : Rd P dm n e w0 S l ⟨dst, .makeFunc fn fs.toArray cs.toArray, ty, pos, aft, gd⟩ (.func fn vf.toArray vc.toArray) :=
  fun a w hs ho => by simp [execOp, Instr.makeFunc, hs.evs hf, hs.evs hc]
end
end Go.Gv
namespace Go.Gv
open Go.RowKit
theorem row_own {w : World} {e : TypeId} {size : Nat} {a : Option Nat} {n cap : Nat} {xs : List Value} (h : HL.holds w (.row e size a n cap xs)) : w.ownsRow 0 e size (.slice (rowA a) n cap) n xs := by
  obtain ⟨h1, h2⟩ := h
  refine ⟨h1, ?_⟩
  cases a with
  | none => obtain ⟨rfl, rfl⟩ := h2; exact .inl ⟨rfl, rfl⟩
  | some g => obtain ⟨cur, h3, h4, h5, h6, h7⟩ := h2; exact .inr ⟨g, cap, cur, rfl, Nat.zero_le _, h3, h4, h5, h6, h7⟩
theorem own_row {w : World} {e : TypeId} {size : Nat} {v : Value} {n : Nat} {xs : List Value} {base : Nat} (h : w.ownsRow base e size v n xs) : ∃ a cap, v = .slice (rowA a) n cap ∧ HL.holds w (.row e size a n cap xs) ∧ v.ownBlock = a := by
  obtain ⟨h1, h2⟩ := h
  rcases h2 with ⟨rfl, rfl⟩ | ⟨g, cap, cur, rfl, _, h3, h4, h5, h6, h7⟩
  · exact ⟨none, 0, rfl, ⟨h1, rfl, rfl⟩, rfl⟩
  · exact ⟨some g, cap, rfl, ⟨h1, cur, h3, h4, h5, h6, h7⟩, rfl⟩
section
variable {dm : List Deferred} {P : Program} {n : Nat} {Q : Exit → Act → World → Prop} {K : Act → World → Prop} {e : Env} {w0 : World} {S : List Nat} {l : List HL} {d : Nat} {dst : Option Tmp} {ty : TypeId} {pos : String} {aft : Array Edge} {gd : Option (Nat × Bool)}
/-! ## One operation, then K -/
theorem wp_value {o : Oper} {a : Act} {w w' : World} {v : Value} (h : (execOp a.eval o).run P w = .ok (.value v) w') (k : K (a.put o.dst v) w') : Oper.wp P o a w K Q := by
  unfold Oper.wp; rw [h, Oper.upon_value]; exact k
theorem wp_skip' {o : Oper} {a : Act} {w w' : World} (hd : o.dst = none) (h : (execOp a.eval o).run P w = .ok .skip w') (k : K a w') : Oper.wp P o a w K Q := by
  unfold Oper.wp; rw [h, Oper.upon_skip, hd]; exact k
theorem blt_lt {a b : Nat} (h : Nat.ble b a = false) : a < b := by
  rcases Nat.lt_or_ge a b with h' | h'
  · exact h'
  · rw [Nat.ble_eq_true_of_le h'] at h; cases h
theorem run_box (t : TypeId) (v : Value) (w : World) : (Instr.box t v).run P w = .ok (.pointer (some ⟨w.heap.size, 0, none⟩)) (w.alloc (.cells v.cells t)) := rfl
theorem op_rd {op : Op} {v : Value} (hd : Nat.ble n d = false) (hr : Rd P dm n e w0 S l ⟨some d, op, ty, pos, aft, gd⟩ v) (k : GK dm n K ((d, v) :: e) w0 S l) :
    GK dm n (fun a w => Oper.wp P ⟨some d, op, ty, pos, aft, gd⟩ a w K Q) e w0 S l := fun a w hs ho => by
  exact wp_value (hr a w hs ho) (k _ _ (hs.put (blt_lt hd) v) ho)
/-- a new block -/
theorem op_box {t : TypeId} {x : Operand} {v : Value} {cs : List Value} (hd : Nat.ble n d = false) (hx : e.ev x = some v) (hcs : v.cells.toList = cs)
    (k : ∀ b, GK dm n K ((d, .pointer (some ⟨b, 0, none⟩)) :: e) w0 S (.blk b cs t :: l)) :
    GK dm n (fun a w => Oper.wp P ⟨some d, .box t x, ty, pos, aft, gd⟩ a w K Q) e w0 S l := fun a w hs ho => by
  have hr : (execOp a.eval ⟨some d, .box t x, ty, pos, aft, gd⟩).run P w = .ok (.value (.pointer (some ⟨w.heap.size, 0, none⟩))) (w.alloc (.cells cs.toArray t)) := by
    subst hcs
    simp only [execOp, hs.ev hx, Sem.run_bind, run_box, Result.andThen_ok]; simp
  exact wp_value hr (k _ _ _ (hs.put (blt_lt hd) _) (ho.newBlk cs t))
theorem op_alloc {t : TypeId} {z : Value} {size bytes : Nat} {cs : List Value} (ht : TyF P t z size bytes) (hd : Nat.ble n d = false) (hcs : z.cells.toList = cs)
    (k : ∀ b, GK dm n K ((d, .pointer (some ⟨b, 0, none⟩)) :: e) w0 S (.blk b cs t :: l)) :
    GK dm n (fun a w => Oper.wp P ⟨some d, .alloc t, ty, pos, aft, gd⟩ a w K Q) e w0 S l := fun a w hs ho => by
  have hr : (execOp a.eval ⟨some d, .alloc t, ty, pos, aft, gd⟩).run P w = .ok (.value (.pointer (some ⟨w.heap.size, 0, none⟩))) (w.alloc (.cells cs.toArray t)) := by
    subst hcs
    simp only [execOp, Instr.alloc, Sem.run_bind, ht.runZero, Result.andThen_ok]
    show Result.ok (Next.value (.pointer (some ⟨w.heap.size, 0, none⟩))) (w.alloc (.cells z.cells t)) = _
    simp
  exact wp_value hr (k _ _ _ (hs.put (blt_lt hd) _) (ho.newBlk cs t))
theorem holds_newRow (w : World) (cs : List Value) (E : TypeId) (m sz : Nat) (hlen : cs.length = m * sz) (hm : m ≤ maxLen) : HL.holds (w.alloc (.cells cs.toArray E)) (.row E sz (some w.heap.size) m m cs) := by
  refine ⟨hlen, cs.toArray, heap_alloc_new w _, Nat.le_refl _, hm, by simpa using hlen, ?_⟩
  simp [← hlen]
theorem op_buildSlice {t E : TypeId} {m sz : Nat} {ps : List (Nat × Operand)} {vs : List (Nat × Value)} {cs : List Value} (hd : Nat.ble n d = false) (hp : e.evp ps = some vs)
    (hb : ∀ w, (Instr.buildSlice t m vs.toArray).run P w = .ok (.slice (some ⟨w.heap.size, 0, none⟩) m m) (w.alloc (.cells cs.toArray E))) (hlen : Nat.beq cs.length (m * sz) = true) (hm : Nat.ble m 4096 = true)
    (k : ∀ b, GK dm n K ((d, .slice (some ⟨b, 0, none⟩) m m) :: e) w0 S (.row E sz (some b) m m cs :: l)) :
    GK dm n (fun a w => Oper.wp P ⟨some d, .buildSlice t m ps.toArray, ty, pos, aft, gd⟩ a w K Q) e w0 S l := fun a w hs ho => by
  have hr : (execOp a.eval ⟨some d, .buildSlice t m ps.toArray, ty, pos, aft, gd⟩).run P w = .ok (.value (.slice (some ⟨w.heap.size, 0, none⟩) m m)) (w.alloc (.cells cs.toArray E)) := by
    have := hs.evp hp
    simp only [execOp, List.map_toArray, Sem.run_bind]
    rw [this, hb]; rfl
  have hl : cs.length = m * sz := Nat.eq_of_beq_eq_true hlen
  have hm' : m ≤ 4096 := Nat.le_of_ble_eq_true hm
  exact wp_value hr (k _ _ _ (hs.put (blt_lt hd) _) (ho.alloc _ _ rfl (holds_newRow w cs E m sz hl (by unfold maxLen; omega))))
theorem op_makeSlice {t E : TypeId} {z : Value} {size bytes : Nat} {x y : Operand} {k1 k2 : IntKind} {i1 i2 : Int} (m : Nat) (hu : P.underlying t = some (.slice E)) (ht : TyF P E z size bytes) (hd : Nat.ble n d = false)
    (hx : e.ev x = some (.int k1 i1)) (hy : e.ev y = some (.int k2 i2)) (h1 : i1 = m) (h2 : i2 = m) (hb : bytes * m ≤ 281474976710656) (hm : m ≤ 9223372036854775807)
    (k : ∀ b, GK dm n K ((d, .slice (rowA (some b)) m m) :: e) w0 S (.row E size (some b) m m (madeCells z.cells (m * size)).toList :: l)) :
    GK dm n (fun a w => Oper.wp P ⟨some d, .makeSlice t x y, ty, pos, aft, gd⟩ a w K Q) e w0 S l := fun a w hs ho => by
  obtain ⟨i, hi1, hi2, hi3, hi4⟩ := ht.ex
  subst hi3; subst hi4; subst h1; subst h2
  have hr := run_make (P := P) w t E i z hu hi1 hi2 k1 k2 m m (by omega) (Int.le_refl _) (by rw [← Int.natCast_mul]; omega) (by omega)
  have hr2 : (execOp a.eval ⟨some d, .makeSlice t x y, ty, pos, aft, gd⟩).run P w = .ok (.value (.slice (some ⟨w.heap.size, 0, none⟩) m m)) (w.alloc (.cells (madeCells z.cells (m * i.size)) E)) := by
    simp only [Int.toNat_natCast] at hr
    simp [execOp, hs.ev hx, hs.ev hy, hr]
  have hh := holds_newRow w (madeCells z.cells (m * i.size)).toList E m i.size (by simp [size_madeCells]) (by unfold maxLen; omega)
  simp only [Array.toArray_toList] at hh
  exact wp_value hr2 (k _ _ _ (hs.put (blt_lt hd) _) (ho.alloc _ _ rfl hh))
theorem made_one (z : Value) (hz : z.cells = #[z]) (m : Nat) : (madeCells z.cells (m * 1)).toList = List.replicate m z := by
  rw [hz]
  apply List.ext_getElem
  · simp [size_madeCells]
  · intro i h1 h2
    simp [madeCells, Nat.mod_one]
/-! ### stores -/
theorem run_storeOne {t : TypeId} {z : Value} {size bytes : Nat} (ht : TyF P t z size bytes) (hsz : size = 1) {b off : Nat} {v u : Value} {w : World} (hv : v.oneCell' = true) (hc : w.cell? ⟨b, off, none⟩ = some u) (hf : w.frozen? ⟨b, off, none⟩ = false) :
    (Instr.storeAt t (.pointer (some ⟨b, off, none⟩)) v).run P w = .ok () (w.setCell ⟨b, off, none⟩ v) := by
  subst hsz
  have hcs : v.cells = #[v] := by cases v <;> simp [Value.oneCell', Value.cells] at * 
  have h0 : (⟨b, off, none⟩ : Addr).add 0 = ⟨b, off, none⟩ := by simp [Addr.add]
  have hst : (store ⟨b, off, none⟩ v).run P w = .ok () (w.setCell ⟨b, off, none⟩ v) := by
    cases v <;> simp [Value.oneCell'] at hv <;> simp [store, Sem.run, hc, hf]
  simp [Instr.storeAt, Instr.sureAddr, storeVar, hcs, ht.runSize, storeCells, h0, hst]
theorem Own.frozenBlk {w : World} (ho : Own w0 S w l) (i : Nat) {b off : Nat} {cs : List Value} {t : TypeId} (hi : l[i]? = some (.blk b cs t)) : w.frozen? ⟨b, off, none⟩ = false := by
  have := ho.holds _ (List.mem_of_getElem? hi)
  simp only [HL.holds] at this
  simp [World.frozen?, this]
theorem op_store (i : Nat) {t t' : TypeId} {z : Value} {bytes : Nat} {x y : Operand} {b off : Nat} {cs cs' : List Value} {v : Value} (ht : TyF P t z 1 bytes) (hx : e.ev x = some (.pointer (some ⟨b, off, none⟩))) (hy : e.ev y = some v)
    (hv : v.oneCell' = true) (hi : l[i]? = some (.blk b cs t')) (hoff : Nat.ble cs.length off = false) (hcs : cs.set off v = cs') {l' : List HL} (hl' : l.set i (.blk b cs' t') = l') (k : GK dm n K e w0 S l') :
    GK dm n (fun a w => Oper.wp P ⟨none, .store t x y, ty, pos, aft, gd⟩ a w K Q) e w0 S l := fun a w hs ho => by
  subst hl'; subst hcs
  have hoff' : off < cs.length := blt_lt hoff
  have hr := run_storeOne (P := P) ht rfl hv (ho.blkCell i hi (List.getElem?_eq_getElem hoff')) (ho.frozenBlk i hi)
  have hr2 : (execOp a.eval ⟨none, .store t x y, ty, pos, aft, gd⟩).run P w = .ok .skip (w.setCell ⟨b, off, none⟩ v) := by
    simp [execOp, hs.ev hx, hs.ev hy, hr]
  exact wp_skip' rfl hr2 (k _ _ hs (ho.storeBlk hi v))
theorem Own.storeRow {w : World} (h : Own w0 S w l) {i : Nat} {E : TypeId} {sz : Nat} {r : Option Nat} {m cap off : Nat} {xs : List Value} (hi : l[i]? = some (.row E sz r m cap xs)) (hoff : off < xs.length) (u : Value) :
    w.frozen? ⟨r.getD 0, off, none⟩ = false ∧ Own w0 S (w.setCell ⟨r.getD 0, off, none⟩ u) (l.set i (.row E sz r m cap (xs.set off u))) := by
  have hb := h.holds _ (List.mem_of_getElem? hi)
  obtain ⟨h1, h2⟩ := hb
  cases r with
  | none => obtain ⟨rfl, _⟩ := h2; simp at h1; subst h1; simp at hoff
  | some g =>
    obtain ⟨cur, h3, h4, h5, h6, h7⟩ := h2
    have hlt := lt_size h3
    refine ⟨by simp [World.frozen?, h3], h.turn hi rfl rfl rfl (by simp [World.setCell]) (fun k hk hne => Below.heap_setCell _ _ _ _ (fun e => hne (by simp [HL.block, e]))) ?_ (fun k hk => .inl hk)⟩
    have h' : w.heap[g] = .cells cur E (0, 0) := by simpa [Array.getElem?_eq_getElem hlt] using h3
    refine ⟨by simpa using h1, cur.setIfInBounds off u, ?_, h4, h5, by simpa using h6, ?_⟩
    · show (w.heap.modify g _)[g]? = _
      rw [Array.getElem?_eq_getElem (by simpa using hlt), Array.getElem_modify_self, h']
      rfl
    · rw [Array.toList_setIfInBounds, List.take_set, h7]
theorem op_storeRow (i : Nat) {t E : TypeId} {z : Value} {bytes sz : Nat} {x y : Operand} {r : Option Nat} {m cap off : Nat} {xs : List Value} {v : Value} (ht : TyF P t z 1 bytes) (hx : e.ev x = some (.pointer (some ⟨r.getD 0, off, none⟩))) (hy : e.ev y = some v)
    (hv : v.oneCell' = true) (hi : l[i]? = some (.row E sz r m cap xs)) (hoff : off < xs.length) {l' : List HL} (hl' : l.set i (.row E sz r m cap (xs.set off v)) = l') (k : GK dm n K e w0 S l') :
    GK dm n (fun a w => Oper.wp P ⟨none, .store t x y, ty, pos, aft, gd⟩ a w K Q) e w0 S l := fun a w hs ho => by
  subst hl'
  obtain ⟨hf, ho'⟩ := ho.storeRow hi hoff v
  have hr := run_storeOne (P := P) ht rfl hv (ho.rowCell i hi (List.getElem?_eq_getElem hoff)) hf
  have hr2 : (execOp a.eval ⟨none, .store t x y, ty, pos, aft, gd⟩).run P w = .ok .skip (w.setCell ⟨r.getD 0, off, none⟩ v) := by
    simp [execOp, hs.ev hx, hs.ev hy, hr]
  exact wp_skip' rfl hr2 (k _ _ hs ho')
theorem run_storeVar_row' {t t' : TypeId} {z : Value} {size bytes : Nat} (ht : TyF P t z size bytes) {g : Nat} {old cells : Array Value} {w : World} (hg : w.heap[g]? = some (.cells old t' (0, 0))) (hi : size = cells.size) (ho : old.size = cells.size) (h1 : cells.all (·.oneCell') = true) :
    (storeVar t ⟨g, 0, none⟩ (.agg cells)).run P w = .ok () (w.setRow g cells) := by
  obtain ⟨i, hi1, hi2, hi3, hi4⟩ := ht.ex
  exact run_storeVar_row w g t' t old cells hg (by simp [hi1, hi3, hi]) ho h1
/-- a whole struct is stored -/
theorem op_storeAgg (i : Nat) {t t' : TypeId} {z : Value} {size bytes : Nat} {x y : Operand} {b : Nat} {cs vs : List Value} (ht : TyF P t z size bytes) (hx : e.ev x = some (.pointer (some ⟨b, 0, none⟩))) (hy : e.ev y = some (.agg vs.toArray))
    (hv : vs.all (·.oneCell') = true) (hi : l[i]? = some (.blk b cs t')) (hl : Nat.beq size vs.length = true) (hl2 : Nat.beq cs.length vs.length = true) {l' : List HL} (hl3 : l.set i (.blk b vs t') = l') (k : GK dm n K e w0 S l') :
    GK dm n (fun a w => Oper.wp P ⟨none, .store t x y, ty, pos, aft, gd⟩ a w K Q) e w0 S l := fun a w hs ho => by
  subst hl3
  have hl' := Nat.eq_of_beq_eq_true hl
  have hl2' := Nat.eq_of_beq_eq_true hl2
  have hb := ho.holds _ (List.mem_of_getElem? hi)
  simp only [HL.holds] at hb
  have hr := run_storeVar_row' (P := P) ht (cells := vs.toArray) hb (by simpa using hl') (by simpa using hl2') (by simpa using hv)
  have hr2 : (execOp a.eval ⟨none, .store t x y, ty, pos, aft, gd⟩).run P w = .ok .skip (w.setRow b vs.toArray) := by
    simp [execOp, hs.ev hx, hs.ev hy, Instr.storeAt, Instr.sureAddr, hr]
  refine wp_skip' rfl hr2 (k _ _ hs (ho.turn hi rfl rfl rfl (by simp) (fun k hk hne => setRow_other w b k _ (fun e => hne (by simp [HL.block, e]))) ?_ (fun k hk => .inl hk)))
  exact setRow_heap w b cs.toArray vs.toArray t' (0, 0) hb
/-! ### append -/
theorem run_append_any {t ty E : TypeId} {z : Value} {size bytes : Nat} (hu : P.underlying t = some (.slice E)) (ht : TyF P E z size bytes) (hzs : z.cells.size = size) (hsz : 0 < size) {w : World} {r : Option Nat} {m cap : Nat} {xs : List Value} (hh : HL.holds w (.row E size r m cap xs))
    {ad : Addr} {mm c : Nat} {news : List Value} (hn : news.length = mm * size) (hc : Cells w ad news) (h1 : ∀ u ∈ news, u.oneCell' = true) (hb : (m + mm) * bytes ≤ 140737488355328) (h63 : m + mm ≤ 9223372036854775807) :
    ∃ r' cap' w', (Builtin.append_ #[t, t] ty #[.slice (rowA r) m cap, .slice (some ad) mm c]).run P w = .ok (.slice (rowA r') (m + mm) cap') w' ∧ HL.holds w' (.row E size r' (m + mm) cap' (xs ++ news)) ∧ w.grownBy w' r ∧ (∀ b, r' = some b → r = some b ∨ w.heap.size ≤ b) := by
  obtain ⟨ii, hi1, hi2, hi3, hi4⟩ := ht.ex
  have h63' : m + mm ≤ maxLen := by unfold maxLen; omega
  have hh0 := hh
  obtain ⟨hl, h2⟩ := hh
  cases r with
  | none =>
    obtain ⟨rfl, rfl⟩ := h2
    have hx : xs = [] := List.eq_nil_of_length_eq_zero (by simpa using hl)
    subst hx
    obtain ⟨v', w', hr, h2, h3, h4⟩ := run_append_own (P := P) w w.heap.size t ty E ii z size bytes hu hi1 hi2 hi3 hi4 hzs hsz (.slice none 0 0) 0 [] (World.ownsRow_nil _ _ _ _) ad mm c news hn hc h1 h63' hb (Nat.le_refl _)
    have h5 := h2.lt
    obtain ⟨r', cap', rfl, h6, h7⟩ := own_row h2
    refine ⟨r', cap', w', hr, h6, h3, fun b hb => .inr ?_⟩
    exact (h5 b (h7.trans hb)).1
  | some g =>
    obtain ⟨cur, hg, hnc, hcm, hcs, htake⟩ := h2
    subst hi3
    by_cases hroom : m + mm ≤ cap
    · have hfit : m * ii.size + news.length ≤ cur.size := by rw [hn, hcs, ← Nat.add_mul]; exact Nat.mul_le_mul_right _ hroom
      have hr := run_append_room (P := P) w t ty E ii hu hi1 g m cap cur hg ad mm c news hn hc h1 hroom hfit
      refine ⟨some g, cap, _, hr, ⟨by rw [List.length_append, hl, hn, Nat.add_mul], _, setRow_heap w g cur _ E _ hg, hroom, hcm, ?_, ?_⟩, ⟨rfl, rfl, rfl, by simp, fun k hk hne => setRow_other w g k _ (fun e => hne (by simp [e]))⟩, fun b hb => .inl hb⟩
      · simp only [List.size_toArray, List.length_append, List.length_take, List.length_drop, Array.length_toList]; omega
      · rw [htake, Nat.add_mul, ← hl, ← hn, ← List.length_append]; exact List.take_left
    · have hold := row_own hh0
      have holds : ∀ j u, xs[j]? = some u → w.cell? ((⟨g, 0, none⟩ : Addr).add j) = some u := hold.cells (g := g) rfl
      have hr := run_append_grow (P := P) w t ty E ii z hu hi1 hi2 ⟨g, 0, none⟩ m cap xs hl holds ad mm c news hn hc (by omega) (by omega) (growslice_fits (by omega) (by rw [hi4]; exact hb))
      have hge := grownCap_ge w (m + mm) cap E
      have hcm2 := grownCap_le_maxLen w (m + mm) cap E h63'
      refine ⟨some w.heap.size, _, _, hr, ⟨by rw [List.length_append, hl, hn, Nat.add_mul], _, heap_alloc_new w.drew _, hge, hcm2, ?_, ?_⟩, ⟨rfl, rfl, rfl, by simp, fun k hk _ => Below.heap_alloc w.drew _ k hk⟩, fun b hb => .inr (by simp at hb; omega)⟩
      · simp only [Array.size_append, List.size_toArray, size_zeroCells, hzs, hl, hn, ← Nat.add_mul]
        congr 1; omega
      · simp only [Array.toList_append, List.append_assoc]
        rw [← List.append_assoc, Nat.add_mul, ← hl, ← hn, ← List.length_append]
        exact List.take_left
theorem op_append0 (i : Nat) {t E : TypeId} {z : Value} {size bytes : Nat} {x y : Operand} {r : Option Nat} {m cap : Nat} {xs : List Value} {ad : Addr} {mm c : Nat} {news : List Value} (hu : P.underlying t = some (.slice E)) (ht : TyF P E z size bytes)
    (hzs : z.cells.size = size) (hsz : 0 < size) (hd : Nat.ble n d = false) (hx : e.ev x = some (.slice (rowA r) m cap)) (hy : e.ev y = some (.slice (some ad) mm c)) (hi : l[i]? = some (.row E size r m cap xs))
    (hn : news.length = mm * size) (hc : ∀ w, Own w0 S w l → Cells w ad news) (h1 : ∀ u ∈ news, u.oneCell' = true) (hb : (m + mm) * bytes ≤ 140737488355328) (h63 : m + mm ≤ 9223372036854775807)
    (k : ∀ r' cap', GK dm n K ((d, .slice (rowA r') (m + mm) cap') :: e) w0 S (l.set i (.row E size r' (m + mm) cap' (xs ++ news)))) :
    GK dm n (fun a w => Oper.wp P ⟨some d, .call { callee := .builtin .append, args := #[x, y], argTypes := #[t, t] }, ty, pos, aft, gd⟩ a w K Q) e w0 S l := fun a w hs ho => by
  have hh := ho.holds _ (List.mem_of_getElem? hi)
  obtain ⟨r', cap', w', hr, h2, h3, h4⟩ := run_append_any (ty := ty) (c := c) hu ht hzs hsz hh hn (hc w ho) h1 hb h63
  have hr2 : (execOp a.eval ⟨some d, .call { callee := .builtin .append, args := #[x, y], argTypes := #[t, t] }, ty, pos, aft, gd⟩).run P w = .ok (.value (.slice (rowA r') (m + mm) cap')) w' := by
    simp [execOp, resolve, invoke, builtin, hs.ev hx, hs.ev hy, hr]
  exact wp_value hr2 (k r' cap' _ _ (hs.put (blt_lt hd) _) (ho.turn hi h3.os h3.tape h3.output h3.size (fun b hb1 hb2 => h3.block b hb1 (fun e => hb2 (by simp [HL.block, ← e]))) h2 (fun b hb => h4 b hb)))
theorem op_append (i : Nat) {t E : TypeId} {z : Value} {size bytes : Nat} {x y : Operand} {r : Option Nat} {m cap : Nat} {xs : List Value} {ad : Addr} {mm c : Nat} {news : List Value} (hu : P.underlying t = some (.slice E)) (ht : TyF P E z size bytes)
    (hzs : z.cells.size = size) (hsz : 0 < size) (hd : Nat.ble n d = false) (hx : e.ev x = some (.slice (rowA r) m cap)) (hy : e.ev y = some (.slice (some ad) mm c)) (hi : l[i]? = some (.row E size r m cap xs))
    (hn : news.length = mm * size) (hc : ∀ w, Own w0 S w l → Cells w ad news) (h1 : ∀ u ∈ news, u.oneCell' = true) (hb : (m + mm) * bytes ≤ 140737488355328) (h63 : m + mm ≤ 9223372036854775807) {lf : HL → List HL} (hl' : ∀ y, l.set i y = lf y)
    (k : ∀ r' cap', GK dm n K ((d, .slice (rowA r') (m + mm) cap') :: e) w0 S (lf (.row E size r' (m + mm) cap' (xs ++ news)))) :
    GK dm n (fun a w => Oper.wp P ⟨some d, .call { callee := .builtin .append, args := #[x, y], argTypes := #[t, t] }, ty, pos, aft, gd⟩ a w K Q) e w0 S l :=
  op_append0 i hu ht hzs hsz hd hx hy hi hn hc h1 hb h63 fun r' cap' => by rw [hl']; exact k r' cap'
/-- a row of one's own is appended: 'append(out, x)' -/
theorem op_appendRow (i i2 : Nat) {t E E2 : TypeId} {z : Value} {size bytes : Nat} {x y : Operand} {r : Option Nat} {m cap : Nat} {xs : List Value} {g mm c : Nat} {news : List Value} (hu : P.underlying t = some (.slice E)) (ht : TyF P E z size bytes)
    (hzs : z.cells.size = size) (hsz : 0 < size) (hd : Nat.ble n d = false) (hx : e.ev x = some (.slice (rowA r) m cap)) (hy : e.ev y = some (.slice (some ⟨g, 0, none⟩) mm c)) (hi : l[i]? = some (.row E size r m cap xs)) (hi2 : l[i2]? = some (.row E2 size (some g) mm c news))
    (h1 : ∀ u ∈ news, u.oneCell' = true) (hb : (m + mm) * bytes ≤ 140737488355328) (h63 : m + mm ≤ 9223372036854775807) {lf : HL → List HL} (hl' : ∀ y, l.set i y = lf y)
    (k : ∀ r' cap', GK dm n K ((d, .slice (rowA r') (m + mm) cap') :: e) w0 S (lf (.row E size r' (m + mm) cap' (xs ++ news)))) :
    GK dm n (fun a w => Oper.wp P ⟨some d, .call { callee := .builtin .append, args := #[x, y], argTypes := #[t, t] }, ty, pos, aft, gd⟩ a w K Q) e w0 S l := fun a w hs ho => by
  have hl := (ho.holds _ (List.mem_of_getElem? hi2)).1
  refine op_append i hu ht hzs hsz hd hx hy hi hl (fun w ho j v hv => ?_) h1 hb h63 hl' k a w hs ho
  rw [Addr.add_lit, Nat.zero_add]
  exact ho.rowCell (a := some g) i2 hi2 hv
end
end Go.Gv
namespace Go.Gv
open Go.RowKit
/-! ## Contracts: from a world w, with the memory S of the caller's that may be written: a value, and memory l that is the caller's now -/
def RetR (w0 : World) (S : List Nat) (R : Value → List HL → Prop) : Ending → World → Prop :=
  fun e w' => ∃ v l, e = .returned v ∧ R v l ∧ Own w0 S w' l
def Sp (P : Program) (f : FuncId) (args : List Value) (w0 : World) (S : List Nat) (R : Value → List HL → Prop) : Prop := Calls P f args.toArray w0 (RetR w0 S R)
theorem Sp.mono {P : Program} {f : FuncId} {args : List Value} {w0 : World} {S : List Nat} {R R' : Value → List HL → Prop} (h : Sp P f args w0 S R) (hr : ∀ v l, R v l → R' v l) : Sp P f args w0 S R' :=
  Calls.mono h fun e w' ⟨v, l, h1, h2, h3⟩ => ⟨v, l, h1, hr v l h2, h3⟩
def argEnv : Nat → List Value → Env
  | _, [] => []
  | i, v :: vs => (i, v) :: argEnv (i + 1) vs
theorem argEnv_get : ∀ (vs : List Value) (i j : Nat) (v : Value), (argEnv i vs).get j = some v → i ≤ j ∧ vs[j - i]? = some v
  | [], i, j, v, h => by simp [argEnv, Env.get] at h
  | u :: vs, i, j, v, h => by
    simp only [argEnv, Env.get_cons] at h
    split at h
    · rename_i hij; subst hij; simpa using h
    · rename_i hij
      obtain ⟨h1, h2⟩ := argEnv_get vs (i + 1) j v h
      refine ⟨by omega, ?_⟩
      have : j - i = (j - (i + 1)) + 1 := by omega
      rw [this]; simpa using h2
theorem spec_enter {P : Program} {f : FuncId} {fn : Func} {c : Code} {args : List Value} {w0 : World} {S : List Nat} {R : Value → List HL → Prop} {n : Nat} {l : List HL} (hf : P.funcs[f]? = some fn) (hb : fn.body = some c) (hn : fn.ntmps = n) (hle : Nat.ble args.length n = true)
    (ho : Own w0 S w0 l) (h : GK [] n (c.wp P (bodyPost P fn (RetR w0 S R))) (argEnv 0 args) w0 S l) : Sp P f args w0 S R := by
  subst hn
  have hle' : args.length ≤ fn.ntmps := Nat.le_of_ble_eq_true hle
  refine calls_of_wp hf hb (h _ w0 ⟨?_, rfl, ?_⟩ ho)
  · simp; omega
  · intro i v hv
    obtain ⟨_, h2⟩ := argEnv_get args 0 i v hv
    simp only [Nat.sub_zero] at h2
    have hlt : i < args.length := (List.getElem?_eq_some_iff.1 h2).1
    simp [Array.getElem?_append, hlt]
    simpa [List.getElem?_eq_getElem hlt] using h2
section
variable {dm : List Deferred} {P : Program} {n : Nat} {fn : Func} {e : Env} {w0 : World} {S : List Nat} {l : List HL} {R : Value → List HL → Prop}
theorem results_run1 {t : Tmp} (h : fn.results = #[.tmp t]) {a : Act} {v : Value} (hv : a.tmps[t]? = some v) (P : Program) (w : World) : (results fn a.tmps).run P w = .ok v w := by
  rw [results_tmp h]; simp [Array.getD_eq_getD_getElem?, hv]
theorem gx_ret1 {t : Tmp} {v : Value} {x : Exit} (hx : x = .ret ∨ x = .normal) (hr : fn.results = #[.tmp t]) (hv : e.get t = some v) (idx : List Nat) (hi : idx.Nodup) (h : R v (pick idx l)) : GK [] n (bodyPost P fn (RetR w0 S R) x) e w0 S l :=
  fun a w hs ho => by
    have hd := hs.defers
    have h1 := results_run1 hr (hs.get t v hv) P w
    rcases hx with rfl | rfl <;> exact ⟨hd, v, h1, v, _, rfl, h, ho.pick idx hi⟩
theorem gx_ret0 {x : Exit} (hx : x = .ret ∨ x = .normal) (hr : fn.results = #[]) (idx : List Nat) (hi : idx.Nodup) (h : R (.tuple #[]) (pick idx l)) : GK [] n (bodyPost P fn (RetR w0 S R) x) e w0 S l :=
  fun a w hs ho => by
    have hd := hs.defers
    have h1 := results_none hr a.tmps P w
    rcases hx with rfl | rfl <;> exact ⟨hd, _, h1, _, _, rfl, h, ho.pick idx hi⟩
theorem gx_ret2 {t u : Tmp} {v v2 : Value} {x : Exit} (hx : x = .ret ∨ x = .normal) (hr : fn.results = #[.tmp t, .tmp u]) (hv : e.get t = some v) (hv2 : e.get u = some v2) (idx : List Nat) (hi : idx.Nodup) (h : R (.tuple #[v, v2]) (pick idx l)) : GK [] n (bodyPost P fn (RetR w0 S R) x) e w0 S l :=
  fun a w hs ho => by
    have hd := hs.defers
    have h1 := results_tmp2 hr a.tmps P w
    simp only [Array.getD_eq_getD_getElem?, hs.get t v hv, hs.get u v2 hv2, Option.getD_some] at h1
    rcases hx with rfl | rfl <;> exact ⟨hd, _, h1, _, _, rfl, h, ho.pick idx hi⟩
theorem gx_ret3 {t u s : Tmp} {v v2 v3 : Value} {x : Exit} (hx : x = .ret ∨ x = .normal) (hr : fn.results = #[.tmp t, .tmp u, .tmp s]) (hv : e.get t = some v) (hv2 : e.get u = some v2) (hv3 : e.get s = some v3) (idx : List Nat) (hi : idx.Nodup) (h : R (.tuple #[v, v2, v3]) (pick idx l)) : GK [] n (bodyPost P fn (RetR w0 S R) x) e w0 S l :=
  fun a w hs ho => by
    have hd := hs.defers
    have h1 := results_tmp3 hr a.tmps P w
    simp only [Array.getD_eq_getD_getElem?, hs.get t v hv, hs.get u v2 hv2, hs.get s v3 hv3, Option.getD_some] at h1
    rcases hx with rfl | rfl <;> exact ⟨hd, _, h1, _, _, rfl, h, ho.pick idx hi⟩
end
/-! ## Calls -/
section
variable {dm : List Deferred} {P : Program} {n : Nat} {Q : Exit → Act → World → Prop} {K : Act → World → Prop} {e : Env} {w0 : World} {S : List Nat} {l : List HL} {d : Nat} {dst : Option Tmp} {ty : TypeId} {pos : String} {aft : Array Edge} {gd : Option (Nat × Bool)}
theorem wp_enter {o : Oper} {a : Act} {w w' : World} {f : FuncId} {args : Array Value} (h : (execOp a.eval o).run P w = .ok (.enter f args) w') (hc : Calls P f args w' fun en w'' => ∃ v, en = .returned v ∧ K (a.put o.dst v) w'') : Oper.wp P o a w K Q := by
  unfold Oper.wp; rw [h, Oper.upon_enter]
  exact Calls.mono hc fun en w'' ⟨v, he, hk⟩ => by subst he; exact hk
theorem run_callValue {F : FuncId} {vf vc : List Value} {x : Operand} {xs : List Operand} {at_ : Array TypeId} {vs : List Value} {a : Act} (hs : Sat dm n a e) (hx : e.ev x = some (.func (.func F) vf.toArray vc.toArray)) (hxs : e.evs xs = some vs)
    (hcall : ∀ args w, (callFunc F args).run P w = .ok (.enter F args) w) (w : World) :
    (execOp a.eval ⟨dst, .call { callee := .value x, args := xs.toArray, argTypes := at_ }, ty, pos, aft, gd⟩).run P w = .ok (.enter F (vf ++ vs ++ vc).toArray) w := by
  have h1 := hs.evs hxs
  simp [execOp, resolve, Deferred.ofValue, invoke, hs.ev hx, h1, hcall]
/-- what a contract leaves, beside what one has -/
theorem Own.called {w w1 : World} {Sc : List Nat} {l1 lr : List HL} (ho : Own w0 S w l) (h1 : Own w Sc w1 l1) (hr : Own w0 S w lr) (hSc : ∀ b ∈ Sc, b ∈ S ∨ w0.heap.size ≤ b) (hdis : ∀ x ∈ lr, ∀ b, x.block = some b → b ∉ Sc) : Own w0 S w1 (l1 ++ lr) := by
  have hkeep : ∀ b, b < w.heap.size → b ∉ Sc → w1.heap[b]? = w.heap[b]? := h1.old
  refine ⟨h1.os.trans ho.os, h1.tape.trans ho.tape, h1.output.trans ho.output, Nat.le_trans ho.size h1.size, ?_, ?_, ?_, ?_⟩
  · intro b hb hS
    rw [hkeep b (Nat.lt_of_lt_of_le hb ho.size) (fun hc => ?_), ho.old b hb hS]
    rcases hSc b hc with h | h
    · exact hS h
    · omega
  · intro x hx
    rcases List.mem_append.1 hx with hx | hx
    · exact h1.holds x hx
    · exact HL.holds_of_block (hr.holds x hx) fun b hb => hkeep b (HL.holds_lt (hr.holds x hx) hb) (hdis x hx b hb)
  · intro x hx b hb
    rcases List.mem_append.1 hx with hx | hx
    · rcases h1.place x hx b hb with h | h
      · exact hSc b h
      · exact .inr (Nat.le_trans ho.size h)
    · exact hr.place x hx b hb
  · rw [List.filterMap_append]
    refine List.nodup_append.2 ⟨h1.nodup, hr.nodup, ?_⟩
    intro b hb1 c hc1 hbc
    subst hbc
    obtain ⟨x, hx, hxb⟩ := List.mem_filterMap.1 hb1
    obtain ⟨y, hy, hyb⟩ := List.mem_filterMap.1 hc1
    rcases h1.place x hx b hxb with h | h
    · exact hdis y hy b hyb h
    · have := HL.holds_lt (hr.holds y hy) hyb
      omega
/-- a call that turns nothing of what is there -/
theorem op_call {F : FuncId} {vf vc : List Value} {x : Operand} {xs : List Operand} {at_ : Array TypeId} {vs : List Value} {R : Value → List HL → Prop} (hd : Nat.ble n d = false) (hx : e.ev x = some (.func (.func F) vf.toArray vc.toArray)) (hxs : e.evs xs = some vs)
    (hcall : ∀ args w, (callFunc F args).run P w = .ok (.enter F args) w) (hspec : ∀ w, Own w0 S w l → Sp P F (vf ++ vs ++ vc) w [] R) (k : ∀ v l1, R v l1 → GK dm n K ((d, v) :: e) w0 S (l1 ++ l)) :
    GK dm n (fun a w => Oper.wp P ⟨some d, .call { callee := .value x, args := xs.toArray, argTypes := at_ }, ty, pos, aft, gd⟩ a w K Q) e w0 S l := fun a w hs ho => by
  refine wp_enter (run_callValue hs hx hxs hcall w) (Calls.mono (hspec w ho) fun en w1 ⟨v, l1, he, hR, h1⟩ => ⟨v, he, ?_⟩)
  exact k v l1 hR _ _ (hs.put (blt_lt hd) v) (ho.called h1 ho (by simp) (by simp))
/-- a call that may turn the heaplets at the places ic: the others are those at ir -/
theorem op_callM (ic ir : List Nat) {F : FuncId} {vf vc : List Value} {x : Operand} {xs : List Operand} {at_ : Array TypeId} {vs : List Value} {Sc : List Nat} {R : Value → List HL → Prop} (hd : Nat.ble n d = false) (hx : e.ev x = some (.func (.func F) vf.toArray vc.toArray)) (hxs : e.evs xs = some vs)
    (hcall : ∀ args w, (callFunc F args).run P w = .ok (.enter F args) w) (hno : (ic ++ ir).Nodup) (hSc : Sc = (pick ic l).filterMap HL.block)
    (hspec : ∀ w, Own w0 S w l → Own w Sc w (pick ic l) → Sp P F (vf ++ vs ++ vc) w Sc R) (k : ∀ v l1, R v l1 → GK dm n K ((d, v) :: e) w0 S (l1 ++ pick ir l)) :
    GK dm n (fun a w => Oper.wp P ⟨some d, .call { callee := .value x, args := xs.toArray, argTypes := at_ }, ty, pos, aft, gd⟩ a w K Q) e w0 S l := fun a w hs ho => by
  have hc := ho.pick ic (List.nodup_append.1 hno).1
  have hown : Own w Sc w (pick ic l) := ⟨rfl, rfl, rfl, Nat.le_refl _, fun _ _ _ => rfl, hc.holds, fun x hx b hb => .inl (by rw [hSc]; exact List.mem_filterMap.2 ⟨x, hx, hb⟩), hc.nodup⟩
  refine wp_enter (run_callValue hs hx hxs hcall w) (Calls.mono (hspec w ho hown) fun en w1 ⟨v, l1, he, hR, h1⟩ => ⟨v, he, ?_⟩)
  refine k v l1 hR _ _ (hs.put (blt_lt hd) v) (ho.called h1 (ho.pick ir (List.nodup_append.1 hno).2.1) ?_ ?_)
  · intro b hb
    rw [hSc] at hb
    obtain ⟨y, hy, hyb⟩ := List.mem_filterMap.1 hb
    exact hc.place y hy b hyb
  · intro y hy b hyb hb
    rw [hSc] at hb
    obtain ⟨z, hz, hzb⟩ := List.mem_filterMap.1 hb
    simp only [pick, List.mem_filterMap] at hy hz
    obtain ⟨i, hi, hyi⟩ := hy
    obtain ⟨j, hj, hzj⟩ := hz
    have := nodup_inj ho.nodup hyi hzj hyb hzb
    subst this
    exact (List.nodup_append.1 hno).2.2 i hj i hi rfl
/-! ## A region, operation by operation -/
variable {ops : Array Oper} {rest : List Oper} {o : Oper}
theorem gl_nil (h : GK dm n (Q .normal) e w0 S l) : GK dm n (wpList P ops Q []) e w0 S l := h
theorem gl_op {op : Op} (h : GK dm n (fun a w => Oper.wp P ⟨dst, op, ty, pos, aft, none⟩ a w (wpList P ops Q rest) Q) e w0 S l) : GK dm n (wpList P ops Q (⟨dst, op, ty, pos, aft, none⟩ :: rest)) e w0 S l :=
  fun a w hs ho => by
    unfold wpList
    rw [if_pos (by simp [Region.wanted])]
    exact .inl (h a w hs ho)
theorem yielded_of {a : Act} (hs : Sat dm n a e) {j dj : Nat} {b : Bool} (hj : (ops[j]?).bind (·.dst) = some dj) (hb : e.get dj = some (.bool b)) : yielded ops a.tmps j = some b := by
  simp [yielded, hj, hs.get dj _ hb]
theorem gl_yes {op : Op} {j dj : Nat} {b : Bool} (hj : (ops[j]?).bind (·.dst) = some dj) (hb : e.get dj = some (.bool b))
    (h : GK dm n (fun a w => Oper.wp P ⟨dst, op, ty, pos, aft, some (j, b)⟩ a w (wpList P ops Q rest) Q) e w0 S l) : GK dm n (wpList P ops Q (⟨dst, op, ty, pos, aft, some (j, b)⟩ :: rest)) e w0 S l :=
  fun a w hs ho => by
    have hy := yielded_of hs hj hb
    unfold wpList
    rw [if_pos (by simp [Region.wanted, hy])]
    exact .inl (h a w hs ho)
theorem gl_no {op : Op} {j dj : Nat} {b : Bool} (hj : (ops[j]?).bind (·.dst) = some dj) (hb : e.get dj = some (.bool (!b))) (hd : Nat.ble n d = false)
    (h : GK dm n (wpList P ops Q rest) ((d, undef) :: e) w0 S l) : GK dm n (wpList P ops Q (⟨some d, op, ty, pos, aft, some (j, b)⟩ :: rest)) e w0 S l :=
  fun a w hs ho => by
    have hy := yielded_of hs hj hb
    unfold wpList
    rw [if_neg (by cases b <;> simp [Region.wanted, hy])]
    exact h _ _ (hs.put (blt_lt hd) _) ho
theorem yielded_undef {a : Act} (hs : Sat dm n a e) {j dj : Nat} (hj : (ops[j]?).bind (·.dst) = some dj) (hb : e.get dj = some undef) : yielded ops a.tmps j = none := by
  simp [yielded, hj, hs.get dj _ hb, undef]
theorem gl_noU {op : Op} {j dj : Nat} {b : Bool} (hj : (ops[j]?).bind (·.dst) = some dj) (hb : e.get dj = some undef) (hd : Nat.ble n d = false)
    (h : GK dm n (wpList P ops Q rest) ((d, undef) :: e) w0 S l) : GK dm n (wpList P ops Q (⟨some d, op, ty, pos, aft, some (j, b)⟩ :: rest)) e w0 S l :=
  fun a w hs ho => by
    have hy := yielded_undef hs hj hb
    unfold wpList
    rw [if_neg (by simp [Region.wanted, hy])]
    exact h _ _ (hs.put (blt_lt hd) _) ho
end
end Go.Gv
namespace Go.Gv
open Go.RowKit
/-! ## Regions that draw their order -/
section
variable {dm : List Deferred} {P : Program} {ops : Array Oper} {md : Region.Mode} {I : World → Prop} {z : Bool} {h0 : Nat} {Q : Exit → Act → World → Prop}
def quietB (P : Program) (o : Oper) (a : Act) (w : World) (v : Value) : Result Next → Prop
  | .ok (.value u) w' => w' = w ∧ u = v
  | .ok (.enter f args) w' => w' = w ∧ Calls P f args w (fun e w'' => e = .returned v ∧ Below w.heap.size w w'')
  | _ => False
def YieldsE (P : Program) (ops : Array Oper) (I : World → Prop) (o : Oper) (v : Value) (a : Act) : Prop :=
  (Region.wanted o (yielded ops a.tmps) = true ∧ ∀ w, I w → quietB P o a w v ((execOp a.eval o).run P w)) ∨
  (Region.wanted o (yielded ops a.tmps) = false ∧ v = undef)
def wpAnyE (P : Program) (md : Region.Mode) (ops : Array Oper) (I : World → Prop) (z : Bool) (h0 : Nat) (Q : Exit → Act → World → Prop) : Nat → Array Bool → Act → World → Prop
  | 0, listed, a, w => ∀ w', Below w.heap.size w w' → ((z = true ∨ listed.getD h0 true = false) → I w') ∧ Region.ready md ops listed = [] ∧ Q .normal a w'
  | f + 1, listed, a, w => ∀ w', Below w.heap.size w w' → ((z = true ∨ listed.getD h0 true = false) → I w') ∧ (Region.ready md ops listed = [] → Q .normal a w') ∧
      ∀ i ∈ Region.ready md ops listed, wpOp P ops Q i (wpAnyE P md ops I z h0 Q f (listed.setIfInBounds i true)) a w'
theorem below_trans {w w' w'' : World} (h : Below w.heap.size w w') (h' : Below w'.heap.size w' w'') : Below w.heap.size w w'' := h.trans (h'.mono h.size)
theorem wpAnyE_mono : ∀ (f : Nat) (listed : Array Bool) (a : Act) (w w' : World), Below w.heap.size w w' → wpAnyE P md ops I z h0 Q f listed a w → wpAnyE P md ops I z h0 Q f listed a w'
  | 0, _, _, _, _, hb, h => fun w'' hb' => h w'' (below_trans hb hb')
  | _ + 1, _, _, _, _, hb, h => fun w'' hb' => h w'' (below_trans hb hb')
theorem wpAny_of_E : ∀ (f : Nat) (listed : Array Bool) (a : Act) (w : World), wpAnyE P md ops I z h0 Q f listed a w → wpAny P md ops Q f listed a w
  | 0, _, _, w, h => ⟨(h w (Below.refl _ _)).2.1, (h w (Below.refl _ _)).2.2⟩
  | f + 1, _, _, w, h => ⟨(h w (Below.refl _ _)).2.1, fun i hi => wpOp_mono (fun a' w' h' => wpAny_of_E f _ a' w' h') ((h w (Below.refl _ _)).2.2 i hi)⟩
theorem YieldsE.of_same {o : Oper} {v : Value} {a a' : Act} (hy : YieldsE P ops I o v a) (he : execOp a'.eval o = execOp a.eval o)
    (hw : Region.wanted o (yielded ops a'.tmps) = Region.wanted o (yielded ops a.tmps)) : YieldsE P ops I o v a' := by
  unfold YieldsE at *
  rw [he, hw]
  rcases hy with ⟨h1, h2⟩ | h
  · refine .inl ⟨h1, fun w hI => ?_⟩
    have := h2 w hI
    revert this
    cases (execOp a.eval o).run P w with
    | ok nx w' => cases nx <;> exact id
    | halt h w' => exact id
  · exact .inr h
theorem YieldsE.wpOp {i : Nat} {o : Oper} {v : Value} {a : Act} {w : World} {K : Act → World → Prop} (hi : ops[i]? = some o) (hy : YieldsE P ops I o v a) (hI : I w) (hK : ∀ w', Below w.heap.size w w' → K (a.put o.dst v) w') : wpOp P ops Q i K a w := by
  unfold Go.wpOp
  simp only [hi]
  rcases hy with ⟨hw, hv⟩ | ⟨hw, rfl⟩
  · rw [if_pos hw]
    have h := hv w hI
    refine .inl ?_
    unfold Oper.wp
    revert h
    cases (execOp a.eval o).run P w with
    | ok nx w' =>
      cases nx with
      | value u => rintro ⟨rfl, rfl⟩; exact hK _ (Below.refl _ _)
      | enter f args =>
        rintro ⟨rfl, hc⟩
        rw [Oper.upon_enter]
        refine Calls.mono hc fun en w'' ⟨he, hb⟩ => ?_
        subst he
        exact hK w'' hb
      | _ => exact fun h => h.elim
    | halt h w' => exact fun h => h.elim
  · rw [if_neg (by simp [hw])]
    exact hK w (Below.refl _ _)
def onlyN (QN : Act → World → Prop) : Exit → Act → World → Prop
  | .normal, a, w => QN a w
  | _, _, _ => False
theorem wpOp_put {QN : Act → World → Prop} {j : Nat} {oi oj : Oper} {v : Value} (hj : ops[j]? = some oj) (hap : oi.apart ops oj = true)
    (hsi : ∀ cs b, oi.op ≠ .select cs b) (hsj : ∀ cs b, oj.op ≠ .select cs b) {K : Act → World → Prop} {a : Act} {w : World}
    (hy : YieldsE P ops I oi v a) (h : wpOp P ops (onlyN QN) j K (a.put oi.dst v) w) :
    wpOp P ops (onlyN QN) j (fun a' w' => YieldsE P ops I oi v a' ∧ K (a'.put oi.dst v) w') a w := by
  obtain ⟨h1, h2, h3⟩ := Oper.apart_spec hap
  have keep : ∀ (a1 : Act), a1.tmps = a.tmps → ∀ u, YieldsE P ops I oi v (a1.put oj.dst u) := fun a1 ha u => by
    have e1 : execOp (a1.put oj.dst u).eval oi = execOp a1.eval oi := execOp_put oi hsi a1 oj.dst u h3
    have e2 : Region.wanted oi (yielded ops (a1.put oj.dst u).tmps) = Region.wanted oi (yielded ops a1.tmps) := wanted_put oi a1 oj.dst u h3
    have e3 : a1.eval = a.eval := by funext x; cases x <;> simp [Act.eval, ha]
    exact hy.of_same (by rw [e1, e3]) (by rw [e2, ha])
  have comm : ∀ (a1 : Act) (u : Value), (a1.put oi.dst v).put oj.dst u = (a1.put oj.dst u).put oi.dst v := fun a1 u => Act.put_comm a1 v u h2
  unfold Go.wpOp at *
  simp only [hj] at *
  rw [wanted_put oj a oi.dst v h1] at h
  split
  · rename_i hw
    rw [if_pos hw] at h
    rcases h with h | ⟨_, ⟨_, _, h⟩⟩
    · refine .inl ?_
      unfold Oper.wp at *
      rw [execOp_put oj hsj a oi.dst v h1] at h
      revert h
      cases (execOp a.eval oj).run P w with
      | ok nx w' =>
        cases nx with
        | value u => exact fun h => ⟨keep a rfl u, by rw [← comm]; exact h⟩
        | skip => exact fun h => ⟨keep a rfl undef, by rw [← comm]; exact h⟩
        | defer dd =>
          intro h
          refine ⟨keep { a with defers := dd :: a.defers } rfl undef, ?_⟩
          rw [← comm]
          simp only [Oper.upon] at h
          have := Act.put_defers a oi.dst v dd
          rw [this] at h
          exact h
        | enter f args =>
          intro h
          rw [Oper.upon_enter] at *
          refine Calls.mono h fun en w'' he => ?_
          cases en with
          | returned u => exact ⟨keep a rfl u, by rw [← comm]; exact he⟩
          | panicked ch => exact he.elim
          | outgrown => obtain ⟨_, _, he⟩ := he; exact he.elim
        | row r args =>
          intro h
          rw [Oper.upon_row] at *
          exact Rows.mono h fun u w'' he => ⟨keep a rfl u, by rw [← comm]; exact he⟩
        | _ => exact fun h => h.elim
      | halt hh w' => cases hh <;> exact fun h => h.elim
    · exact h.elim
  · rename_i hw
    rw [if_neg hw] at h
    exact ⟨keep a rfl undef, by rw [← comm]; exact h⟩
/-- **A quiet operation that may come up now may be taken first.** -/
theorem wpAnyE_first {QN : Act → World → Prop} {i : Nat} {oi : Oper} {v : Value} (hi : ops[i]? = some oi) (hsel : ∀ (j : Nat) (o : Oper) cs b, ops[j]? = some o → o.op ≠ .select cs b) :
    ∀ (f : Nat) (listed : Array Bool) (a : Act) (w : World),
      (∀ j oj, ops[j]? = some oj → j ≠ i → listed.getD j true = false → (∀ e ∈ oj.after, Region.binds md e = true → e.on ≠ i) → oi.apart ops oj = true) →
      i ∈ Region.ready md ops listed → YieldsE P ops I oi v a → (∀ w', Below w.heap.size w w' → I w') →
      (z = true ∨ ∃ ot, ops[h0]? = some ot ∧ h0 ≠ i ∧ listed.getD h0 true = false ∧ ∃ e ∈ ot.after, Region.binds md e = true ∧ e.on = i) →
      wpAnyE P md ops I z h0 (onlyN QN) f (listed.setIfInBounds i true) (a.put oi.dst v) w → wpAnyE P md ops I z h0 (onlyN QN) (f + 1) listed a w := by
  intro f
  induction f with
  | zero =>
    intro listed a w _ hr hy hI _ H w' hb
    refine ⟨fun _ => hI w' hb, fun h => (by rw [h] at hr; cases hr), fun j hj => ?_⟩
    by_cases hji : j = i
    · subst hji
      exact hy.wpOp hi (hI w' hb) fun w'' hb' => wpAnyE_mono 0 _ _ w w'' (below_trans hb hb') H
    · have := ready_mono hj hji
      rw [(H w (Below.refl _ _)).2.1] at this
      cases this
  | succ f ih =>
    intro listed a w hfree hr hy hI hz H w' hb
    refine ⟨fun _ => hI w' hb, fun h => (by rw [h] at hr; cases hr), fun j hj => ?_⟩
    by_cases hji : j = i
    · subst hji
      exact hy.wpOp hi (hI w' hb) fun w'' hb' => wpAnyE_mono (f + 1) _ _ w w'' (below_trans hb hb') H
    · have h1 := (H w' hb).2.2 j (ready_mono hj hji)
      obtain ⟨hjun, oj, hoj, hall⟩ := mem_ready.1 hj
      have hnot : ∀ e ∈ oj.after, Region.binds md e = true → e.on ≠ i := fun e he hbd heq => by
        have h1 := hall e he hbd
        have h0 := (mem_ready.1 hr).1
        rw [heq] at h1
        rcases Nat.lt_or_ge i listed.size with h' | h'
        · simp [h'] at h0 h1; rw [h0] at h1; cases h1
        · simp [Array.getElem?_eq_none h'] at h1
      have h2 := wpOp_put hoj (hfree j oj hoj hji hjun hnot) (fun cs b => hsel i oi cs b hi) (fun cs b => hsel j oj cs b hoj) hy h1
      have hfree' : ∀ k ok, ops[k]? = some ok → k ≠ i → (listed.setIfInBounds j true).getD k true = false →
          (∀ e ∈ ok.after, Region.binds md e = true → e.on ≠ i) → oi.apart ops ok = true := fun k ok hk hki hun hno => by
        refine hfree k ok hk hki ?_ hno
        by_cases hjk : j = k
        · subst hjk; exact hjun
        · rw [getD_set_ne true hjk] at hun; exact hun
      have hz' : z = true ∨ ∃ ot, ops[h0]? = some ot ∧ h0 ≠ i ∧ (listed.setIfInBounds j true).getD h0 true = false ∧ ∃ e ∈ ot.after, Region.binds md e = true ∧ e.on = i := by
        rcases hz with hz | ⟨ot, ht, hti, hun, e, he, hbd, hon⟩
        · exact .inl hz
        · refine .inr ⟨ot, ht, hti, ?_, e, he, hbd, hon⟩
          have hjt : j ≠ h0 := fun h => by
            subst h
            have : oj = ot := Option.some.inj (hoj.symm.trans ht)
            subst this
            exact hnot e he hbd hon
          rw [getD_set_ne true hjt]; exact hun
      refine wpOp_mono (fun a' w'' h3 => ?_) h2
      have h4 := h3.2
      rw [Array.setIfInBounds_comm _ _ (Ne.symm hji)] at h4
      refine ih (listed.setIfInBounds j true) a' w'' hfree' (ready_mono hr (Ne.symm hji)) h3.1 (fun w3 hb3 => ?_) hz' h4
      have hd : z = true ∨ ((listed.setIfInBounds j true).setIfInBounds i true).getD h0 true = false := by
        rcases hz' with hz' | ⟨ot, ht, hti, hun, _⟩
        · exact .inl hz'
        · exact .inr (by rw [getD_set_ne true (Ne.symm hti)]; exact hun)
      cases f with
      | succ f => exact (h4 w3 hb3).1 hd
      | zero => exact (h4 w3 hb3).1 hd
/-- an operation that asks nothing of the memory may be taken first, whatever comes behind -/
theorem wpAnyE_firstT {QN : Act → World → Prop} {i : Nat} {oi : Oper} {v : Value} (hi : ops[i]? = some oi) (hsel : ∀ (j : Nat) (o : Oper) cs b, ops[j]? = some o → o.op ≠ .select cs b) (hih : h0 ≠ i) :
    ∀ (f : Nat) (listed : Array Bool) (a : Act) (w : World),
      (∀ j oj, ops[j]? = some oj → j ≠ i → listed.getD j true = false → (∀ e ∈ oj.after, Region.binds md e = true → e.on ≠ i) → oi.apart ops oj = true) →
      i ∈ Region.ready md ops listed → YieldsE P ops (fun _ => True) oi v a →
      wpAnyE P md ops I z h0 (onlyN QN) f (listed.setIfInBounds i true) (a.put oi.dst v) w → wpAnyE P md ops I z h0 (onlyN QN) (f + 1) listed a w := by
  intro f
  induction f with
  | zero =>
    intro listed a w _ hr hy H w' hb
    refine ⟨fun hz => (H w' hb).1 (hz.imp id fun h => by rw [getD_set_ne true (Ne.symm hih)]; exact h), fun h => (by rw [h] at hr; cases hr), fun j hj => ?_⟩
    by_cases hji : j = i
    · subst hji
      exact hy.wpOp hi trivial fun w'' hb' => wpAnyE_mono 0 _ _ w w'' (below_trans hb hb') H
    · have := ready_mono hj hji
      rw [(H w (Below.refl _ _)).2.1] at this
      cases this
  | succ f ih =>
    intro listed a w hfree hr hy H w' hb
    refine ⟨fun hz => (H w' hb).1 (hz.imp id fun h => by rw [getD_set_ne true (Ne.symm hih)]; exact h), fun h => (by rw [h] at hr; cases hr), fun j hj => ?_⟩
    by_cases hji : j = i
    · subst hji
      exact hy.wpOp hi trivial fun w'' hb' => wpAnyE_mono (f + 1) _ _ w w'' (below_trans hb hb') H
    · have h1 := (H w' hb).2.2 j (ready_mono hj hji)
      obtain ⟨hjun, oj, hoj, hall⟩ := mem_ready.1 hj
      have hnot : ∀ e ∈ oj.after, Region.binds md e = true → e.on ≠ i := fun e he hbd heq => by
        have h1 := hall e he hbd
        have h0 := (mem_ready.1 hr).1
        rw [heq] at h1
        rcases Nat.lt_or_ge i listed.size with h' | h'
        · simp [h'] at h0 h1; rw [h0] at h1; cases h1
        · simp [Array.getElem?_eq_none h'] at h1
      have h2 := wpOp_put hoj (hfree j oj hoj hji hjun hnot) (fun cs b => hsel i oi cs b hi) (fun cs b => hsel j oj cs b hoj) hy h1
      have hfree' : ∀ k ok, ops[k]? = some ok → k ≠ i → (listed.setIfInBounds j true).getD k true = false →
          (∀ e ∈ ok.after, Region.binds md e = true → e.on ≠ i) → oi.apart ops ok = true := fun k ok hk hki hun hno => by
        refine hfree k ok hk hki ?_ hno
        by_cases hjk : j = k
        · subst hjk; exact hjun
        · rw [getD_set_ne true hjk] at hun; exact hun
      refine wpOp_mono (fun a' w'' h3 => ?_) h2
      have h4 := h3.2
      rw [Array.setIfInBounds_comm _ _ (Ne.symm hji)] at h4
      exact ih (listed.setIfInBounds j true) a' w'' hfree' (ready_mono hr (Ne.symm hji)) h3.1 h4
/-- the whole region -/
theorem wp_region_E {QN : Act → World → Prop} {id : Nat} {Q : Exit → Act → World → Prop} {a : Act} {w : World} (hm : P.follows .mixedOrders = true)
    (h : wpAnyE P .any ops I z h0 (onlyN (fun a w => Q .normal a w)) ops.size (Array.replicate ops.size false) a { w with drawn := w.drawn + 1 }) : (Code.region id ops true).wp P Q a w := by
  refine wp_mono (Q := onlyN fun a w => Q .normal a w) (wp_region_any hm (wpAny_of_E _ _ _ _ h)) fun x a w hq => ?_
  cases x with
  | normal => exact hq
  | _ => exact hq.elim
end
/-! ### the judgement's rules -/
/-- the class of worlds: a part of what is owned -/
def IO (w0 : World) (S : List Nat) (lc : List HL) : World → Prop := fun w => Own w0 S w lc
section
variable {dm : List Deferred} {P : Program} {n : Nat} {Q : Exit → Act → World → Prop} {K : Act → World → Prop} {e : Env} {w0 : World} {S : List Nat} {l : List HL}
/-- quiet: one value, in every world of the class -/
def Qt (P : Program) (dm : List Deferred) (n : Nat) (e : Env) (w0 : World) (S : List Nat) (l : List HL) (o : Oper) (v : Value) : Prop :=
  ∀ a w, Sat dm n a e → Own w0 S w l → quietB P o a w v ((execOp a.eval o).run P w)
theorem qt_rd {o : Oper} {v : Value} (h : Rd P dm n e w0 S l o v) : Qt P dm n e w0 S l o v := fun a w hs ho => by rw [h a w hs ho]; exact ⟨rfl, rfl⟩
theorem qt_call {dst : Option Tmp} {ty : TypeId} {pos : String} {aft : Array Edge} {gd : Option (Nat × Bool)} {F : FuncId} {vf vc : List Value} {x : Operand} {xs : List Operand} {at_ : Array TypeId} {vs : List Value} {R : Value → List HL → Prop} {v : Value} (hx : e.ev x = some (.func (.func F) vf.toArray vc.toArray)) (hxs : e.evs xs = some vs)
    (hcall : ∀ args w, (callFunc F args).run P w = .ok (.enter F args) w) (hspec : ∀ w, Own w0 S w l → Sp P F (vf ++ vs ++ vc) w [] R) (hv : ∀ u l1, R u l1 → u = v) :
    Qt P dm n e w0 S l ⟨dst, .call { callee := .value x, args := xs.toArray, argTypes := at_ }, ty, pos, aft, gd⟩ v := fun a w hs ho => by
  rw [run_callValue hs hx hxs hcall w]
  refine ⟨rfl, Calls.mono (hspec w ho) fun en w1 ⟨u, l1, he, hR, h1⟩ => ⟨by rw [he, hv u l1 hR], h1.below⟩⟩
/-- the region begins: lc: what no operation turns (but the last one, where z is false) -/
theorem gc_draw {id : Nat} {ops : List Oper} (lc : List HL) (z : Bool) (h0 : Nat) (hm : P.follows .mixedOrders = true) (h : GK dm n (wpAnyE P .any ops.toArray (IO w0 S lc) z h0 (onlyN (Q .normal)) ops.length (Array.replicate ops.length false)) e w0 S l) :
    GK dm n ((Code.region id ops.toArray true).wp P Q) e w0 S l := fun a w hs ho =>
  wp_region_E (QN := Q .normal) hm (I := IO w0 S lc) (z := z) (h0 := h0) (by simpa using h a _ hs ho.drew)
theorem gc_drawP {id : Nat} {ops : List Oper} (idx : List Nat) (z : Bool) (h0 : Nat) (hm : P.follows .mixedOrders = true) (h : GK dm n (wpAnyE P .any ops.toArray (IO w0 S (pick idx l)) z h0 (onlyN (Q .normal)) ops.length (Array.replicate ops.length false)) e w0 S l) :
    GK dm n ((Code.region id ops.toArray true).wp P Q) e w0 S l := gc_draw (pick idx l) z h0 hm h
variable {ops : Array Oper} {z : Bool} {h0 : Nat} {QN : Act → World → Prop} {lc : List HL} {f : Nat} {listed : Array Bool}
/-- all that is asked of the place of an operation that is taken first -/
def firstB (ops : Array Oper) (listed : Array Bool) (z : Bool) (i last : Nat) : Bool :=
  Region.noSelect ops && Region.free .any ops listed i && (Region.ready .any ops listed).contains i &&
  (z || (match ops[last]? with | some ot => !(Nat.beq last i) && !listed.getD last true && ot.after.any (fun e => Region.binds .any e && e.on == i) | none => false))
theorem ga_first {o : Oper} {v : Value} {d : Nat} (i : Nat) (listed' : Array Bool) (hi : ops[i]? = some o) (hdst : o.dst = some d) (hd : Nat.ble n d = false) (hg : o.guard = none) (hB : firstB ops listed z i h0 = true) (hl : listed.setIfInBounds i true = listed') (hsub : Sub lc l) (hq : Qt P dm n e w0 S lc o v)
    (k : GK dm n (wpAnyE P .any ops (IO w0 S lc) z h0 (onlyN QN) f listed') ((d, v) :: e) w0 S l) : GK dm n (wpAnyE P .any ops (IO w0 S lc) z h0 (onlyN QN) (f + 1) listed) e w0 S l := fun a w hs ho => by
  subst hl
  simp only [firstB, Bool.and_eq_true] at hB
  obtain ⟨⟨⟨h1, h2⟩, h3⟩, h4⟩ := hB
  refine wpAnyE_first hi (Region.noSelect_spec h1) f listed a w (fun j oj hj hne hun hno => Region.free_spec hi h2 j oj hj hne hun hno) (by simpa using h3)
    (.inl ⟨by simp [Region.wanted, hg], fun w' hw' => hq a w' hs hw'⟩) (fun w' hb => (ho.ext hb).sub hsub) ?_ ?_
  · simp only [Bool.or_eq_true] at h4
    rcases h4 with h4 | h4
    · exact .inl h4
    · right
      split at h4
      · rename_i ot hot
        simp only [Bool.and_eq_true, Bool.not_eq_true'] at h4
        obtain ⟨⟨h5, h6⟩, h7⟩ := h4
        obtain ⟨e, he, hb⟩ := Array.any_eq_true'.1 h7
        simp only [Bool.and_eq_true, beq_iff_eq] at hb
        exact ⟨ot, hot, fun h => by subst h; simp at h5, h6, e, he, hb.1, hb.2⟩
      · cases h4
  · rw [hdst]; exact k _ _ (hs.put (blt_lt hd) v) ho
/-- .. one that asks nothing of the memory -/
def firstTB (ops : Array Oper) (listed : Array Bool) (i h0 : Nat) : Bool :=
  Region.noSelect ops && Region.free .any ops listed i && (Region.ready .any ops listed).contains i && !(Nat.beq h0 i)
theorem ga_firstT {o : Oper} {v : Value} {d : Nat} (i : Nat) (listed' : Array Bool) (hi : ops[i]? = some o) (hdst : o.dst = some d) (hd : Nat.ble n d = false) (hg : o.guard = none) (hB : firstTB ops listed i h0 = true) (hl : listed.setIfInBounds i true = listed') (hq : ∀ w, Rd P dm n e w [] [] o v)
    (k : GK dm n (wpAnyE P .any ops (IO w0 S lc) z h0 (onlyN QN) f listed') ((d, v) :: e) w0 S l) : GK dm n (wpAnyE P .any ops (IO w0 S lc) z h0 (onlyN QN) (f + 1) listed) e w0 S l := fun a w hs ho => by
  subst hl
  simp only [firstTB, Bool.and_eq_true, Bool.not_eq_true'] at hB
  obtain ⟨⟨⟨h1, h2⟩, h3⟩, h4⟩ := hB
  refine wpAnyE_firstT hi (Region.noSelect_spec h1) (fun h => by subst h; simp at h4) f listed a w (fun j oj hj hne hun hno => Region.free_spec hi h2 j oj hj hne hun hno) (by simpa using h3)
    (.inl ⟨by simp [Region.wanted, hg], fun w' _ => by rw [hq w' a w' hs (Own.refl w')]; exact ⟨rfl, rfl⟩⟩) ?_
  rw [hdst]; exact k _ _ (hs.put (blt_lt hd) v) ho
/-- the guard says yes -/
theorem ga_firstY {o : Oper} {v : Value} {d j dj : Nat} {b : Bool} (i : Nat) (listed' : Array Bool) (hi : ops[i]? = some o) (hdst : o.dst = some d) (hd : Nat.ble n d = false) (hg : o.guard = some (j, b)) (hj : (ops[j]?).bind (·.dst) = some dj) (hb : e.get dj = some (.bool b)) (hB : firstB ops listed z i h0 = true) (hl : listed.setIfInBounds i true = listed') (hsub : Sub lc l) (hq : Qt P dm n e w0 S lc o v)
    (k : GK dm n (wpAnyE P .any ops (IO w0 S lc) z h0 (onlyN QN) f listed') ((d, v) :: e) w0 S l) : GK dm n (wpAnyE P .any ops (IO w0 S lc) z h0 (onlyN QN) (f + 1) listed) e w0 S l := fun a w hs ho => by
  subst hl
  simp only [firstB, Bool.and_eq_true] at hB
  obtain ⟨⟨⟨h1, h2⟩, h3⟩, h4⟩ := hB
  refine wpAnyE_first hi (Region.noSelect_spec h1) f listed a w (fun j oj hj hne hun hno => Region.free_spec hi h2 j oj hj hne hun hno) (by simpa using h3)
    (.inl ⟨by simp [Region.wanted, hg, yielded_of hs hj hb], fun w' hw' => hq a w' hs hw'⟩) (fun w' hb => (ho.ext hb).sub hsub) ?_ ?_
  · simp only [Bool.or_eq_true] at h4
    rcases h4 with h4 | h4
    · exact .inl h4
    · right
      split at h4
      · rename_i ot hot
        simp only [Bool.and_eq_true, Bool.not_eq_true'] at h4
        obtain ⟨⟨h5, h6⟩, h7⟩ := h4
        obtain ⟨e, he, hb⟩ := Array.any_eq_true'.1 h7
        simp only [Bool.and_eq_true, beq_iff_eq] at hb
        exact ⟨ot, hot, fun h => by subst h; simp at h5, h6, e, he, hb.1, hb.2⟩
      · cases h4
  · rw [hdst]; exact k _ _ (hs.put (blt_lt hd) v) ho
/-- the guard says no -/
theorem ga_firstN {o : Oper} {d j dj : Nat} {b : Bool} (i : Nat) (listed' : Array Bool) (hi : ops[i]? = some o) (hdst : o.dst = some d) (hd : Nat.ble n d = false) (hg : o.guard = some (j, b)) (hj : (ops[j]?).bind (·.dst) = some dj) (hb : e.get dj = some (.bool (!b))) (hB : firstB ops listed z i h0 = true) (hl : listed.setIfInBounds i true = listed') (hsub : Sub lc l)
    (k : GK dm n (wpAnyE P .any ops (IO w0 S lc) z h0 (onlyN QN) f listed') ((d, undef) :: e) w0 S l) : GK dm n (wpAnyE P .any ops (IO w0 S lc) z h0 (onlyN QN) (f + 1) listed) e w0 S l := fun a w hs ho => by
  subst hl
  simp only [firstB, Bool.and_eq_true] at hB
  obtain ⟨⟨⟨h1, h2⟩, h3⟩, h4⟩ := hB
  refine wpAnyE_first hi (Region.noSelect_spec h1) f listed a w (fun j oj hj hne hun hno => Region.free_spec hi h2 j oj hj hne hun hno) (by simpa using h3)
    (.inr ⟨by cases b <;> simp [Region.wanted, hg, yielded_of hs hj hb], rfl⟩) (fun w' hb => (ho.ext hb).sub hsub) ?_ ?_
  · simp only [Bool.or_eq_true] at h4
    rcases h4 with h4 | h4
    · exact .inl h4
    · right
      split at h4
      · rename_i ot hot
        simp only [Bool.and_eq_true, Bool.not_eq_true'] at h4
        obtain ⟨⟨h5, h6⟩, h7⟩ := h4
        obtain ⟨e, he, hb⟩ := Array.any_eq_true'.1 h7
        simp only [Bool.and_eq_true, beq_iff_eq] at hb
        exact ⟨ot, hot, fun h => by subst h; simp at h5, h6, e, he, hb.1, hb.2⟩
      · cases h4
  · rw [hdst]; exact k _ _ (hs.put (blt_lt hd) undef) ho
/-- the guard was passed over -/
theorem ga_firstNU {o : Oper} {d j dj : Nat} {b : Bool} (i : Nat) (listed' : Array Bool) (hi : ops[i]? = some o) (hdst : o.dst = some d) (hd : Nat.ble n d = false) (hg : o.guard = some (j, b)) (hj : (ops[j]?).bind (·.dst) = some dj) (hb : e.get dj = some undef) (hB : firstB ops listed z i h0 = true) (hl : listed.setIfInBounds i true = listed') (hsub : Sub lc l)
    (k : GK dm n (wpAnyE P .any ops (IO w0 S lc) z h0 (onlyN QN) f listed') ((d, undef) :: e) w0 S l) : GK dm n (wpAnyE P .any ops (IO w0 S lc) z h0 (onlyN QN) (f + 1) listed) e w0 S l := fun a w hs ho => by
  subst hl
  simp only [firstB, Bool.and_eq_true] at hB
  obtain ⟨⟨⟨h1, h2⟩, h3⟩, h4⟩ := hB
  refine wpAnyE_first hi (Region.noSelect_spec h1) f listed a w (fun j oj hj hne hun hno => Region.free_spec hi h2 j oj hj hne hun hno) (by simpa using h3)
    (.inr ⟨by simp [Region.wanted, hg, yielded_undef hs hj hb], rfl⟩) (fun w' hb => (ho.ext hb).sub hsub) ?_ ?_
  · simp only [Bool.or_eq_true] at h4
    rcases h4 with h4 | h4
    · exact .inl h4
    · right
      split at h4
      · rename_i ot hot
        simp only [Bool.and_eq_true, Bool.not_eq_true'] at h4
        obtain ⟨⟨h5, h6⟩, h7⟩ := h4
        obtain ⟨e, he, hb⟩ := Array.any_eq_true'.1 h7
        simp only [Bool.and_eq_true, beq_iff_eq] at hb
        exact ⟨ot, hot, fun h => by subst h; simp at h5, h6, e, he, hb.1, hb.2⟩
      · cases h4
  · rw [hdst]; exact k _ _ (hs.put (blt_lt hd) undef) ho
theorem sub_of (hsub : (z || !listed.getD h0 true) = false ∨ Sub lc l) (hz : z = true ∨ listed.getD h0 true = false) : Sub lc l := by
  rcases hsub with h | h
  · simp only [Bool.or_eq_false_iff, Bool.not_eq_false'] at h
    rcases hz with h1 | h1
    · rw [h.1] at h1; cases h1
    · rw [h.2] at h1; cases h1
  · exact h
/-- only one operation may come up -/
theorem ga_only {o : Oper} (i : Nat) (listed' : Array Bool) (hi : ops[i]? = some o) (hg : o.guard = none) (hB : decide (Region.ready .any ops listed = [i]) = true) (hl : listed.setIfInBounds i true = listed') (hsub : (z || !listed.getD h0 true) = false ∨ Sub lc l)
    (k : GK dm n (fun a w => Oper.wp P o a w (wpAnyE P .any ops (IO w0 S lc) z h0 (onlyN QN) f listed') (onlyN QN)) e w0 S l) : GK dm n (wpAnyE P .any ops (IO w0 S lc) z h0 (onlyN QN) (f + 1) listed) e w0 S l := fun a w hs ho w' hb => by
  subst hl
  have hB' := of_decide_eq_true hB
  refine ⟨fun hz => (ho.ext hb).sub (sub_of hsub hz), fun h => (by rw [hB'] at h; cases h), fun j hj => ?_⟩
  rw [hB'] at hj
  have : j = i := by simpa using hj
  subst this
  unfold wpOp
  simp only [hi]
  rw [if_pos (by simp [Region.wanted, hg])]
  exact .inl (k a w' hs (ho.ext hb))
/-- one of two -/
theorem ga_two {o1 o2 : Oper} (i1 i2 : Nat) (l1 l2 : Array Bool) (hi1 : ops[i1]? = some o1) (hi2 : ops[i2]? = some o2) (hg1 : o1.guard = none) (hg2 : o2.guard = none) (hB : decide (Region.ready .any ops listed = [i1, i2]) = true) (hl1 : listed.setIfInBounds i1 true = l1) (hl2 : listed.setIfInBounds i2 true = l2) (hsub : (z || !listed.getD h0 true) = false ∨ Sub lc l)
    (k1 : GK dm n (fun a w => Oper.wp P o1 a w (wpAnyE P .any ops (IO w0 S lc) z h0 (onlyN QN) f l1) (onlyN QN)) e w0 S l) (k2 : GK dm n (fun a w => Oper.wp P o2 a w (wpAnyE P .any ops (IO w0 S lc) z h0 (onlyN QN) f l2) (onlyN QN)) e w0 S l) : GK dm n (wpAnyE P .any ops (IO w0 S lc) z h0 (onlyN QN) (f + 1) listed) e w0 S l := fun a w hs ho w' hb => by
  subst hl1; subst hl2
  have hB' := of_decide_eq_true hB
  refine ⟨fun hz => (ho.ext hb).sub (sub_of hsub hz), fun h => (by rw [hB'] at h; cases h), fun j hj => ?_⟩
  rw [hB'] at hj
  have : j = i1 ∨ j = i2 := by simpa using hj
  rcases this with rfl | rfl
  · unfold wpOp
    simp only [hi1]
    rw [if_pos (by simp [Region.wanted, hg1])]
    exact .inl (k1 a w' hs (ho.ext hb))
  · unfold wpOp
    simp only [hi2]
    rw [if_pos (by simp [Region.wanted, hg2])]
    exact .inl (k2 a w' hs (ho.ext hb))
/-- all are through -/
theorem ga_end (hB : (Region.ready .any ops listed).isEmpty = true) (hsub : (z || !listed.getD h0 true) = false ∨ Sub lc l) (k : GK dm n QN e w0 S l) : GK dm n (wpAnyE P .any ops (IO w0 S lc) z h0 (onlyN QN) 0 listed) e w0 S l := fun a w hs ho w' hb =>
  ⟨fun hz => (ho.ext hb).sub (sub_of hsub hz), by simpa using hB, k a w' hs (ho.ext hb)⟩
end
end Go.Gv
namespace Go.Gv
open Go.RowKit
/-! ## Slices that came in (or that a callee only reads) -/
def adr (a : Option Addr) : Addr := a.getD ⟨0, 0, none⟩
structure OldSl (w : World) (S : List Nat) (a : Option Addr) (n size : Nat) (cells : List Value) : Prop where
  len : cells.length = n * size
  isSome : 0 < n → a.isSome = true
  cells : Cells w (adr a) cells
  out : 0 < n → (adr a).block ∉ S
theorem block_add (a : Addr) (k : Nat) : (a.add k).block = a.block := by simp only [Addr.add]; split <;> rfl
theorem cell_lt {w : World} {ad : Addr} {v : Value} (ha : w.cell? ad = some v) : ad.block < w.heap.size := by
  unfold World.cell? at ha
  split at ha
  · rename_i hh; exact lt_size hh
  · cases ha
theorem OldSl.lt {w : World} {S : List Nat} {a : Option Addr} {n size : Nat} {cells : List Value} (h : OldSl w S a n size cells) (hn : 0 < n) (hs : 0 < size) : (adr a).block < w.heap.size := by
  have h1 : 0 < cells.length := by rw [h.len]; exact Nat.mul_pos hn hs
  have := cell_lt (h.cells 0 _ (List.getElem?_eq_getElem h1))
  rwa [block_add] at this
section
variable {dm : List Deferred} {P : Program} {n : Nat} {e : Env} {w0 : World} {S : List Nat} {l : List HL} {dst : Option Tmp} {ty : TypeId} {pos : String} {aft : Array Edge} {gd : Option (Nat × Bool)}
theorem OldSl.at {w : World} {a : Option Addr} {m size : Nat} {cells : List Value} (h : OldSl w0 S a m size cells) (ho : Own w0 S w l) : OldSl w [] a m size cells :=
  ⟨h.len, h.isSome, fun j v hv => ho.cellOld (h.cells j v hv) (by
    rw [block_add]
    rcases Nat.eq_zero_or_pos m with rfl | hm
    · have := h.len; simp at this; subst this; simp at hv
    · exact h.out hm), by simp⟩
theorem OldSl.atS {w : World} {a : Option Addr} {m size : Nat} {cells : List Value} {Sc : List Nat} (h : OldSl w0 S a m size cells) (ho : Own w0 S w l) (hs : 0 < size) (hlt : ∀ b ∈ Sc, w0.heap.size ≤ b) : OldSl w Sc a m size cells :=
  ⟨h.len, h.isSome, (h.at ho).cells, fun hm hb => by have := h.lt hm hs; have := hlt _ hb; omega⟩
theorem adr_row (r : Option Nat) : adr (rowA r) = ⟨r.getD 0, 0, none⟩ := by cases r <;> rfl
theorem Own.rowSl {w : World} (ho : Own w0 S w l) (i : Nat) {E : TypeId} {sz : Nat} {r : Option Nat} {m cap : Nat} {xs : List Value} (hi : l[i]? = some (.row E sz r m cap xs)) : OldSl w [] (rowA r) m sz xs := by
  have hh := ho.holds _ (List.mem_of_getElem? hi)
  refine ⟨hh.1, fun hm => ?_, fun j v hv => ?_, by simp⟩
  · cases r with
    | none => have := hh.2.1; omega
    | some g => rfl
  · rw [adr_row, Addr.add_lit, Nat.zero_add]; exact ho.rowCell i hi hv
theorem rd_indexOld {t E : TypeId} {z : Value} {size bytes : Nat} {x y : Operand} {a : Option Addr} {m cap : Nat} {cells : List Value} {k : IntKind} {i : Int} (h : OldSl w0 S a m size cells) (hu : P.underlying t = some (.slice E)) (ht : TyF P E z size bytes) (hx : e.ev x = some (.slice a m cap)) (hy : e.ev y = some (.int k i)) (h0 : 0 ≤ i) (h1 : i < m) :
    Rd P dm n e w0 S l ⟨dst, .indexAddr t x y, ty, pos, aft, gd⟩ (.pointer (some ((adr a).add (i.toNat * size)))) := by
  have hs := h.isSome (by omega)
  cases a with
  | none => cases hs
  | some ad => exact rd_index hu ht hx hy h0 h1
theorem rd_indexOld1 {t E : TypeId} {z : Value} {bytes : Nat} {x y : Operand} {a : Option Addr} {m cap : Nat} {cells : List Value} {k : IntKind} {i : Int} (h : OldSl w0 S a m 1 cells) (hu : P.underlying t = some (.slice E)) (ht : TyF P E z 1 bytes) (hx : e.ev x = some (.slice a m cap)) (hy : e.ev y = some (.int k i)) (h0 : 0 ≤ i) (h1 : i < m) :
    Rd P dm n e w0 S l ⟨dst, .indexAddr t x y, ty, pos, aft, gd⟩ (.pointer (some ((adr a).add i.toNat))) := by
  have h2 := rd_indexOld (dst := dst) (ty := ty) (pos := pos) (aft := aft) (gd := gd) (dm := dm) (n := n) (l := l) h hu ht hx hy h0 h1
  rwa [Nat.mul_one] at h2
theorem ld_sl {a : Option Addr} {m size off : Nat} {cells : List Value} {v : Value} (h : OldSl w0 S a m size cells) (hv : cells[off]? = some v) : ∀ w, Own w0 S w l → w.cell? ((adr a).add off) = some v :=
  fun w ho => (h.at ho).cells off v hv
theorem ld_slf {a : Option Addr} {m size off f : Nat} {cells : List Value} {v : Value} (h : OldSl w0 S a m size cells) (hv : cells[off + f]? = some v) : ∀ w, Own w0 S w l → w.cell? (((adr a).add off).add f) = some v :=
  fun w ho => by rw [add_add]; exact (h.at ho).cells (off + f) v hv
theorem cs_sl {a : Option Addr} {m size off k : Nat} {cells cs : List Value} (h : OldSl w0 S a m size cells) (hcs : (cells.drop off).take k = cs) : ∀ w, Own w0 S w l → Cells w ((adr a).add off) cs :=
  fun w ho j v hv => by
    subst hcs
    rw [add_add]
    rw [List.getElem?_take] at hv
    split at hv
    · exact (h.at ho).cells (off + j) v (by simpa using hv)
    · cases hv
theorem Own.trans {w w2 : World} {l2 : List HL} (h : Own w0 [] w l) (h2 : Own w [] w2 l2) : Own w0 [] w2 l2 :=
  ⟨h2.os.trans h.os, h2.tape.trans h.tape, h2.output.trans h.output, Nat.le_trans h.size h2.size, fun b hb hS => (h2.old b (Nat.lt_of_lt_of_le hb h.size) hS).trans (h.old b hb hS), h2.holds,
   fun x hx b hb => by rcases h2.place x hx b hb with h3 | h3; exact .inl h3; exact .inr (Nat.le_trans h.size h3), h2.nodup⟩
theorem Cells.at {w : World} {ad : Addr} {cs : List Value} (h : Cells w0 ad cs) (ho : Own w0 [] w l) : Cells w ad cs := fun j v hv => ho.cellOld (h j v hv) (by simp)
theorem Own.blkCells {w : World} (ho : Own w0 S w l) (i : Nat) {b : Nat} {cs : List Value} {t : TypeId} (hi : l[i]? = some (.blk b cs t)) : Cells w ⟨b, 0, none⟩ cs := fun j v hv => by
  rw [Addr.add_lit, Nat.zero_add]; exact ho.blkCell i hi hv
end
section
variable {dm : List Deferred} {P : Program} {n : Nat} {Q : Exit → Act → World → Prop} {K : Act → World → Prop} {e : Env} {w0 : World} {S : List Nat} {l : List HL} {d : Nat} {ty : TypeId} {pos : String} {aft : Array Edge} {gd : Option (Nat × Bool)}
theorem run_append_none {t ty E : TypeId} {z : Value} {size bytes : Nat} (hu : P.underlying t = some (.slice E)) (ht : TyF P E z size bytes) {w : World} {r : Option Nat} {m cap : Nat} {xs : List Value} (hh : HL.holds w (.row E size r m cap xs)) (c : Nat) :
    (Builtin.append_ #[t, t] ty #[.slice (rowA r) m cap, .slice none 0 c]).run P w = .ok (.slice (rowA r) m cap) w := by
  obtain ⟨i, hi1, hi2, hi3, hi4⟩ := ht.ex
  have hmc : m ≤ cap := by
    cases r with
    | none => obtain ⟨_, rfl, rfl⟩ := hh; exact Nat.le_refl _
    | some g => obtain ⟨_, cur, _, h, _⟩ := hh; exact h
  cases r with
  | none => simp [Builtin.append_, run_underlying hu, sizeOf, typeInfo, hi1, Builtin.lenOf, Builtin.firstCells, rowA, hmc]
  | some g => simp [Builtin.append_, run_underlying hu, sizeOf, typeInfo, hi1, Builtin.lenOf, Builtin.firstCells, rowA, hmc, storeCells]
/-- a slice that came in is appended: 'append(out, xs...)' -/
theorem op_appendSl (i : Nat) {t E : TypeId} {z : Value} {size bytes : Nat} {x y : Operand} {r : Option Nat} {m cap : Nat} {xs : List Value} {a : Option Addr} {mm c : Nat} {news : List Value} (hsl : OldSl w0 S a mm size news) (hu : P.underlying t = some (.slice E)) (ht : TyF P E z size bytes)
    (hzs : z.cells.size = size) (hsz : 0 < size) (hd : Nat.ble n d = false) (hx : e.ev x = some (.slice (rowA r) m cap)) (hy : e.ev y = some (.slice a mm c)) (hi : l[i]? = some (.row E size r m cap xs))
    (h1 : ∀ u ∈ news, u.oneCell' = true) (hb : (m + mm) * bytes ≤ 140737488355328) (h63 : m + mm ≤ 9223372036854775807) {lf : HL → List HL} (hl' : ∀ y, l.set i y = lf y)
    (k : ∀ r' cap', GK dm n K ((d, .slice (rowA r') (m + mm) cap') :: e) w0 S (lf (.row E size r' (m + mm) cap' (xs ++ news)))) :
    GK dm n (fun a w => Oper.wp P ⟨some d, .call { callee := .builtin .append, args := #[x, y], argTypes := #[t, t] }, ty, pos, aft, gd⟩ a w K Q) e w0 S l := by
  cases a with
  | some ad => exact op_append i hu ht hzs hsz hd hx hy hi hsl.len (fun w ho => (hsl.at ho).cells) h1 hb h63 hl' k
  | none =>
    have hmm : mm = 0 := by
      rcases Nat.eq_zero_or_pos mm with h | h
      · exact h
      · have := hsl.isSome h; cases this
    subst hmm
    have hnews : news = [] := List.eq_nil_of_length_eq_zero (by simpa using hsl.len)
    subst hnews
    have hset : l.set i (.row E size r m cap xs) = l := by
      apply List.ext_getElem?
      intro j
      rw [List.getElem?_set]
      split
      · rename_i h; subst h
        split
        · exact hi.symm
        · rename_i h2; simp [List.getElem?_eq_none (by omega : l.length ≤ i)] at hi
      · rfl
    have k' := k r cap
    rw [← hl', List.append_nil, Nat.add_zero, hset] at k'
    intro ac w hs ho
    have hh := ho.holds _ (List.mem_of_getElem? hi)
    have hr := run_append_none (P := P) (t := t) (ty := ty) hu ht hh c
    have hr2 : (execOp ac.eval ⟨some d, .call { callee := .builtin .append, args := #[x, y], argTypes := #[t, t] }, ty, pos, aft, gd⟩).run P w = .ok (.value (.slice (rowA r) m cap)) w := by
      simp [execOp, resolve, invoke, builtin, hs.ev hx, hs.ev hy, hr]
    exact wp_value hr2 (k' _ _ (hs.put (blt_lt hd) _) ho)
end
theorem wrap_u64_nat {n : Nat} (h : n < 18446744073709551616) : IntKind.u64.wrap (n : Int) = (n : Int) := by
  unfold IntKind.wrap
  simp only [IntKind.signed, IntKind.bits, Bool.false_and, if_false, Bool.false_eq_true]
  exact Int.emod_eq_of_lt (by omega) (by omega)
/-! ### elements of m cells each -/
theorem flat_len {α : Type} (f : α → List Value) (m : Nat) (hf : ∀ x, (f x).length = m) (zs : List α) : (zs.flatMap f).length = zs.length * m := by
  induction zs with
  | nil => simp
  | cons z zs ih => simp [List.flatMap_cons, hf, ih, Nat.add_mul, Nat.add_comm]
theorem flat_drop {α : Type} (f : α → List Value) (m : Nat) (hf : ∀ x, (f x).length = m) (d : α) : ∀ (zs : List α) (k : Nat), k < zs.length → ((zs.flatMap f).drop (k * m)).take m = f (zs.getD k d)
  | [], k, h => by simp at h
  | z :: zs, 0, h => by
    have := hf z
    subst this
    simp [List.flatMap_cons]
  | z :: zs, k + 1, h => by
    have ih := flat_drop f m hf d zs k (by simpa using h)
    have h2 : (k + 1) * m = (f z).length + k * m := by rw [hf, Nat.add_mul, Nat.one_mul, Nat.add_comm]
    rw [List.flatMap_cons, h2, ← List.drop_drop, List.drop_left]
    simpa using ih
theorem flat_drop_get {α : Type} (f : α → List Value) (m : Nat) (hf : ∀ x, (f x).length = m) {zs : List α} {k : Nat} {x : α} (h : zs[k]? = some x) : ((zs.flatMap f).drop (k * m)).take m = f x := by
  have hlt : k < zs.length := (List.getElem?_eq_some_iff.1 h).1
  rw [flat_drop f m hf x zs k hlt]
  simp [List.getD, h]
theorem flat_get {α : Type} (f : α → List Value) (m : Nat) (hf : ∀ x, (f x).length = m) (d : α) (zs : List α) (k j : Nat) (h : k < zs.length) (hj : j < m) : (zs.flatMap f)[k * m + j]? = (f (zs.getD k d))[j]? := by
  have h1 := flat_drop f m hf d zs k h
  have h2 : (((zs.flatMap f).drop (k * m)).take m)[j]? = (f (zs.getD k d))[j]? := by rw [h1]
  rw [List.getElem?_take, if_pos hj, List.getElem?_drop] at h2
  exact h2
end Go.Gv
namespace Go.Gv
open Go.RowKit
def lk (k : Int) : List (Int × Int) → Option Int
  | [] => none
  | (a, v) :: l => if k = a then some v else lk k l
section
variable {dm : List Deferred} {P : Program} {n : Nat} {Q : Exit → Act → World → Prop} {K : Act → World → Prop} {e : Env} {w0 : World} {S : List Nat} {l : List HL} {d : Nat} {dst : Option Nat} {ty : TypeId} {pos : String} {aft : Array Edge} {gd : Option (Nat × Bool)}
end
end Go.Gv
namespace Go.Gv
open Go.RowKit
section
variable {dm : List Deferred} {P : Program} {n : Nat} {Q : Exit → Act → World → Prop} {K : Act → World → Prop} {e : Env} {w0 : World} {S : List Nat} {l : List HL} {d : Nat} {dst : Option Nat} {ty : TypeId} {pos : String} {aft : Array Edge} {gd : Option (Nat × Bool)}
/-- the loop: F and Lk are the slots and the memory that it does not turn -/
theorem gc_loopF {c : Code} {ι : Type} (F : Env) (Lk : List HL) (p : ι → Prop) (E : ι → Env → Env) (L : ι → List HL → List HL) (m : ι → Nat) (j0 : ι) (hp : p j0) (he : Env.le (E j0 F) e) (hl : Sub (L j0 Lk) l)
    (body : ∀ j, p j → GK dm n (c.wp P (Exit.then (fun a w => ∃ j', (p j' ∧ m j' < m j) ∧ Sat dm n a (E j' F) ∧ Own w0 S w (L j' Lk)) Q)) (E j F) w0 S (L j Lk)) :
    GK dm n ((Code.loop c).wp P Q) e w0 S l :=
  gc_loop p (fun j => E j F) (fun j => L j Lk) m j0 hp he hl body
theorem ld_slN {a : Option Addr} {m size off : Nat} {cells : List Value} {v : Value} (h : OldSl w0 S a m size cells) (hv : cells[off]? = some v) : ∀ w, Own w0 S w l → w.cell? ((adr a).add (off : Int).toNat) = some v := ld_sl h hv
theorem ld_rowN (i : Nat) {E : TypeId} {sz : Nat} {a : Option Nat} {m cap : Nat} {xs : List Value} {off : Nat} {v : Value} (hi : l[i]? = some (.row E sz a m cap xs)) (hv : xs[off]? = some v) : ∀ w, Own w0 S w l → w.cell? ⟨a.getD 0, (off : Int).toNat, none⟩ = some v := ld_row i hi hv
theorem rd_indexArr {t E : TypeId} {z : Value} {bytes N : Nat} {x y : Operand} {ad : Addr} {k : IntKind} {i : Int} (hu : P.underlying t = some (.array N E)) (ht : TyF P E z 1 bytes) (hx : e.ev x = some (.pointer (some ad))) (hy : e.ev y = some (.int k i)) (h0 : 0 ≤ i) (h1 : i < N) :
    Rd P dm n e w0 S l ⟨dst, .indexAddr t x y, ty, pos, aft, gd⟩ (.pointer (some (ad.add i.toNat))) :=
  fun a w hs ho => by simp [execOp, hs.ev hx, hs.ev hy, Instr.indexAt, asIntOf, run_underlying hu, Instr.sureAddr, h0, h1, ht.runSize]
/-! numbers that are Nats -/
variable {t ty' : TypeId} {x y : Operand} {k : IntKind} {a b : Nat}
theorem rd_addN (hx : e.ev x = some (.int .i64 a)) (hy : e.ev y = some (.int .i64 b)) (h : a + b ≤ 9223372036854775807) : Rd P dm n e w0 S l ⟨dst, .binOp .add t x y ty', ty, pos, aft, gd⟩ (.int .i64 ((a + b : Nat) : Int)) := by
  rw [Int.natCast_add]; exact rd_add hx hy (by omega) (by omega)
theorem rd_subN (hx : e.ev x = some (.int .i64 a)) (hy : e.ev y = some (.int .i64 b)) (h : b ≤ a) (h2 : a ≤ 9223372036854775807) : Rd P dm n e w0 S l ⟨dst, .binOp .sub t x y ty', ty, pos, aft, gd⟩ (.int .i64 ((a - b : Nat) : Int)) := by
  rw [Int.natCast_sub h]; exact rd_sub hx hy (by omega) (by omega)
theorem rd_remN (hx : e.ev x = some (.int k a)) (hy : e.ev y = some (.int k b)) (h : 1 ≤ b) : Rd P dm n e w0 S l ⟨dst, .binOp .rem t x y ty', ty, pos, aft, gd⟩ (.int k ((a % b : Nat) : Int)) := by
  have h2 : ((a % b : Nat) : Int) = (a : Int) % b := Int.natCast_emod a b
  rw [h2]; exact rd_rem hx hy (by omega) (by omega)
end
end Go.Gv
namespace Go.Gv
open Go.RowKit
section
variable {dm : List Deferred} {P : Program} {n : Nat} {e : Env} {w0 : World} {S : List Nat} {l : List HL} {ops : Array Oper} {z : Bool} {h0 : Nat} {QN : Act → World → Prop} {lc : List HL} {f : Nat} {listed : Array Bool}
/-- only one operation may come up; its guard says yes -/
theorem ga_onlyY {o : Oper} {j dj : Nat} {b : Bool} (i : Nat) (listed' : Array Bool) (hi : ops[i]? = some o) (hg : o.guard = some (j, b)) (hj : (ops[j]?).bind (·.dst) = some dj) (hb : e.get dj = some (.bool b)) (hB : decide (Region.ready .any ops listed = [i]) = true) (hl : listed.setIfInBounds i true = listed') (hsub : (z || !listed.getD h0 true) = false ∨ Sub lc l)
    (k : GK dm n (fun a w => Oper.wp P o a w (wpAnyE P .any ops (IO w0 S lc) z h0 (onlyN QN) f listed') (onlyN QN)) e w0 S l) : GK dm n (wpAnyE P .any ops (IO w0 S lc) z h0 (onlyN QN) (f + 1) listed) e w0 S l := fun a w hs ho w' hbl => by
  subst hl
  have hB' := of_decide_eq_true hB
  refine ⟨fun hz => (ho.ext hbl).sub (sub_of hsub hz), fun h => (by rw [hB'] at h; cases h), fun q hq => ?_⟩
  rw [hB'] at hq
  have : q = i := by simpa using hq
  subst this
  unfold wpOp
  simp only [hi]
  rw [if_pos (by simp [Region.wanted, hg, yielded_of hs hj hb])]
  exact .inl (k a w' hs (ho.ext hbl))
end
end Go.Gv
namespace Go.Gv
open Go.RowKit
abbrev intV (z : Int) : Value := .int .i64 z
abbrev natV (z : Nat) : Value := .int .i64 (z : Int)
abbrev boolV (b : Bool) : Value := .bool b
/-- the value is v0, no memory is handed over -/
def RV (v0 : Value) : Value → List HL → Prop := fun v l => v = v0 ∧ l = []
theorem getD_of_mem {α : Type} (d : α) {xs : List α} {x : α} (h : x ∈ xs) : ∃ i, i < xs.length ∧ xs.getD i d = x := by
  obtain ⟨i, hi⟩ := List.mem_iff_getElem?.1 h
  obtain ⟨h1, h2⟩ := List.getElem?_eq_some_iff.1 hi
  exact ⟨i, h1, by simp [h1, h2]⟩
theorem getD_set {α : Type} {d : α} (l : List α) (i k : Nat) (a : α) (h : i < l.length) : (l.set i a).getD k d = if i = k then a else l.getD k d := by
  simp only [List.getD_eq_getElem?_getD, List.getElem?_set, h]
  split <;> simp
theorem get_some {α : Type} {xs : List α} {k : Nat} (h : k < xs.length) : ∃ x, xs[k]? = some x := ⟨xs[k], List.getElem?_eq_getElem h⟩
theorem getD_some {α : Type} {d : α} {xs : List α} {k : Nat} {x : α} (h : xs[k]? = some x) : xs.getD k d = x := by simp [List.getD, h]
theorem natInt (xs : List Nat) : (xs.map fun n : Nat => (n : Int)).map intV = xs.map natV := by simp [List.map_map]
theorem drop_at {α : Type} {xs : List α} {i : Nat} {x : α} (hx : xs[i]? = some x) : xs.drop i = x :: xs.drop (i + 1) := by
  have h : i < xs.length := (List.getElem?_eq_some_iff.1 hx).1
  rw [List.drop_eq_getElem_cons h, (List.getElem?_eq_some_iff.1 hx).2]
theorem take_at {α : Type} {xs : List α} {i : Nat} {x : α} (hx : xs[i]? = some x) : xs.take (i + 1) = xs.take i ++ [x] := by
  have h : i < xs.length := (List.getElem?_eq_some_iff.1 hx).1
  rw [List.take_succ_eq_append_getElem h, (List.getElem?_eq_some_iff.1 hx).2]
theorem get_flat {α : Type} (f : α → List Value) (m : Nat) (hf : ∀ x, (f x).length = m) {zs : List α} {k j : Nat} {x : α} (h : zs[k]? = some x) (hj : j < m) {v : Value} (hv : (f x)[j]? = some v) : (zs.flatMap f)[k * m + j]? = some v := by
  have hlt : k < zs.length := (List.getElem?_eq_some_iff.1 h).1
  rw [flat_get f m hf x zs k j hlt hj]
  rw [show zs.getD k x = x from by simp [List.getD, h]]
  exact hv
section
variable {dm : List Deferred} {P : Program} {n : Nat} {Q : Exit → Act → World → Prop} {K : Act → World → Prop} {e : Env} {w0 : World} {S : List Nat} {l : List HL} {d : Nat} {dst : Option Nat} {ty : TypeId} {pos : String} {aft : Array Edge} {gd : Option (Nat × Bool)}
/-! ### max -/
theorem rd_max2 {x y : Operand} {k : IntKind} {p q : Int} {ats : Array TypeId} (hx : e.ev x = some (.int k p)) (hy : e.ev y = some (.int k q)) :
    Rd P dm n e w0 S l ⟨dst, .call { callee := .builtin .max, args := #[x, y], argTypes := ats }, ty, pos, aft, gd⟩ (.int k (max p q)) :=
  fun a w hs ho => by
    have e1 : (if q > p then q else p) = max p q := by split <;> omega
    simp [execOp, resolve, invoke, builtin, hs.ev hx, hs.ev hy, Builtin.max_, Builtin.max2]
    exact e1
def subA (a : Option Addr) (cap k size : Nat) : Option Addr := if cap = k then a else a.map (·.add (k * size))
theorem OldSl.drop {w : World} {a : Option Addr} {m size cap : Nat} {cells : List Value} (h : OldSl w S a m size cells) (k : Nat) (hk : k ≤ m) (hc : m ≤ cap) : OldSl w S (subA a cap k size) (m - k) size (cells.drop (k * size)) := by
  refine ⟨by rw [List.length_drop, h.len, Nat.sub_mul], fun hp => ?_, fun j v hv => ?_, fun hp => ?_⟩
  · have := h.isSome (by omega)
    unfold subA; rw [if_neg (by omega)]
    cases a with
    | none => cases this
    | some ad => rfl
  · rw [List.getElem?_drop] at hv
    have hj := (List.getElem?_eq_some_iff.1 hv).1
    rw [h.len] at hj
    have hlt : k < m := by
      rcases Nat.lt_or_ge k m with h2 | h2
      · exact h2
      · have := Nat.mul_le_mul_right size h2; omega
    have h2 := h.cells _ _ hv
    have := h.isSome (by omega)
    unfold subA; rw [if_neg (by omega)]
    cases a with
    | none => cases this
    | some ad =>
      show w.cell? ((ad.add (k * size)).add j) = some v
      rw [add_add]; exact h2
  · have h2 := h.out (by omega)
    have := h.isSome (by omega)
    unfold subA; rw [if_neg (by omega)]
    cases a with
    | none => cases this
    | some ad =>
      show (ad.add (k * size)).block ∉ S
      rw [block_add]; exact h2
theorem OldSl.take {w : World} {a : Option Addr} {m size : Nat} {cells : List Value} (h : OldSl w S a m size cells) (k : Nat) (hk : k ≤ m) : OldSl w S a k size (cells.take (k * size)) := by
  refine ⟨by rw [List.length_take, h.len, Nat.min_eq_left (Nat.mul_le_mul_right size hk)], fun hp => h.isSome (by omega), fun j v hv => ?_, fun hp => h.out (by omega)⟩
  rw [List.getElem?_take] at hv
  split at hv
  · exact h.cells j v hv
  · cases hv
theorem oldNil (w : World) (S : List Nat) (size : Nat) : OldSl w S none 0 size [] := ⟨by simp, fun h => absurd h (by decide), fun j v hv => by simp at hv, fun h => absurd h (by decide)⟩
/-! ### maps from integers, whatever they lead to, in the order of insertion -/
def KV (es : List MapEntry) (m : List (Int × Value)) : Prop := es.map (fun x => (x.key, x.val)) = m.map fun p => (Value.int .i64 p.1, p.2)
theorem KV.nil : KV [] [] := rfl
theorem KV.snoc {es : List MapEntry} {m : List (Int × Value)} (h : KV es m) (k : Int) (v : Value) (nb : Nat) : KV (es ++ [⟨.int .i64 k, v, nb⟩]) (m ++ [(k, v)]) := by
  unfold KV at *; rw [List.map_append, List.map_append, h]; rfl
theorem filterMap_ext {α β : Type} {f g : α → Option β} : ∀ {xs : List α}, (∀ x ∈ xs, f x = g x) → xs.filterMap f = xs.filterMap g
  | [], _ => rfl
  | x :: xs, h => by
    rw [List.filterMap_cons, List.filterMap_cons, h x (by simp), filterMap_ext fun y hy => h y (List.mem_cons_of_mem _ hy)]
theorem filterMap_range_get {α : Type} : ∀ (T : List α), (List.range T.length).filterMap (fun i => T[i]?) = T
  | [] => rfl
  | t :: T => by
    rw [List.length_cons, List.range_succ_eq_map, List.filterMap_cons]
    simp only [List.getElem?_cons_zero, List.filterMap_map]
    congr 1
    have := filterMap_range_get T
    simpa [Function.comp_def] using this
/-! ### a tail of heaplets that is not listed -/
theorem sub_tail {A B T : List HL} (idx : List Nat) (m : Nat) (hi : idx.Nodup) (hlt : ∀ i ∈ idx, i < m) (hm : B.length = m) (hA : A = pick idx B) : Sub (A ++ T) (B ++ T) := by
  subst hm
  refine ⟨idx ++ (List.range T.length).map (· + B.length), ?_, ?_⟩
  · rw [List.nodup_append]
    refine ⟨hi, ?_, fun a ha b hb e => ?_⟩
    · refine List.Pairwise.map _ (fun a b hab => ?_) List.nodup_range
      omega
    · obtain ⟨q, _, rfl⟩ := List.mem_map.1 hb
      have := hlt a ha
      omega
  · subst hA
    unfold pick
    rw [List.filterMap_append]
    congr 1
    · refine filterMap_ext fun i hi2 => ?_
      rw [List.getElem?_append_left (hlt i hi2)]
    · rw [List.filterMap_map]
      have h2 : ((fun i => (B ++ T)[i]?) ∘ (· + B.length)) = fun i => T[i]? := funext fun i => by
        simp [List.getElem?_append_right (show B.length ≤ i + B.length by omega)]
      rw [h2, filterMap_range_get]
end
end Go.Gv
namespace Go.Gv
open Go.RowKit
section
variable {dm : List Deferred} {P : Program} {n : Nat} {Q : Exit → Act → World → Prop} {K : Act → World → Prop} {e : Env} {w0 : World} {S : List Nat} {l : List HL} {d : Nat} {dst : Option Nat} {ty : TypeId} {pos : String} {aft : Array Edge} {gd : Option (Nat × Bool)}
theorem cs_slN {a : Option Addr} {m size off k : Nat} {cells cs : List Value} (h : OldSl w0 S a m size cells) (hcs : (cells.drop (off * k)).take k = cs) : ∀ w, Own w0 S w l → Cells w ((adr a).add ((off : Int).toNat * k)) cs := cs_sl h hcs
end
end Go.Gv
namespace Go.Gv
open Go.RowKit
section
variable {dm : List Deferred} {P : Program} {n : Nat} {Q : Exit → Act → World → Prop} {K : Act → World → Prop} {e : Env} {w0 : World} {S : List Nat} {l : List HL} {d : Nat} {dst : Option Nat} {ty : TypeId} {pos : String} {aft : Array Edge} {gd : Option (Nat × Bool)}
theorem op_storeRowE (i : Nat) {t E : TypeId} {z : Value} {bytes sz : Nat} {x y : Operand} {r : Option Nat} {m cap off : Nat} {xs ys : List Value} {v : Value} (ht : TyF P t z 1 bytes) (hx : e.ev x = some (.pointer (some ⟨r.getD 0, off, none⟩))) (hy : e.ev y = some v)
    (hv : v.oneCell' = true) (hi : l[i]? = some (.row E sz r m cap xs)) (hoff : off < xs.length) (hp : xs.set off v = ys) {l' : List HL} (hl' : l.set i (.row E sz r m cap ys) = l') (k : GK dm n K e w0 S l') :
    GK dm n (fun a w => Oper.wp P ⟨none, .store t x y, ty, pos, aft, gd⟩ a w K Q) e w0 S l := by
  subst hp
  exact op_storeRow i ht hx hy hv hi hoff hl' k
end
end Go.Gv
namespace Go.Gv
open Go.RowKit
theorem sub_rot (A B : List HL) : Sub (B ++ A) (A ++ B) := by
  refine ⟨(List.range B.length).map (· + A.length) ++ List.range A.length, ?_, ?_⟩
  · rw [List.nodup_append]
    refine ⟨List.Pairwise.map _ (fun a b hab => by omega) List.nodup_range, List.nodup_range, fun a ha b hb e => ?_⟩
    obtain ⟨q, _, rfl⟩ := List.mem_map.1 ha
    have := List.mem_range.1 hb
    omega
  · unfold pick
    rw [List.filterMap_append]
    congr 1
    · rw [List.filterMap_map]
      have h2 : ((fun i => (A ++ B)[i]?) ∘ (· + A.length)) = fun i => B[i]? := funext fun i => by
        simp [List.getElem?_append_right (show A.length ≤ i + A.length by omega)]
      rw [h2, filterMap_range_get]
    · refine (filterMap_range_get A).symm.trans (filterMap_ext fun i hi => ?_)
      rw [List.getElem?_append_left (List.mem_range.1 hi)]
section
variable {dm : List Deferred} {P : Program} {n : Nat} {K : Act → World → Prop} {e : Env} {w0 : World} {S : List Nat} {l l' : List HL}
theorem gk_sub (hl : Sub l' l) (h : GK dm n K e w0 S l') : GK dm n K e w0 S l := fun a w hs ho => h a w hs (ho.sub hl)
end
section
variable {dm : List Deferred} {P : Program} {n : Nat} {ops : Array Oper} {e : Env} {w0 : World} {S : List Nat} {l lc : List HL} {z : Bool} {h0 f : Nat} {QN : Act → World → Prop} {listed : Array Bool}
end
end Go.Gv
namespace Go.Gv
open Go.RowKit
/-! ## a call that turns a tail of heaplets -/
theorem pick_tail (A T : List HL) : pick ((List.range T.length).map (· + A.length)) (A ++ T) = T := by
  unfold pick
  rw [List.filterMap_map]
  have h2 : ((fun i => (A ++ T)[i]?) ∘ (· + A.length)) = fun i => T[i]? := funext fun i => by
    simp [List.getElem?_append_right (show A.length ≤ i + A.length by omega)]
  rw [h2, filterMap_range_get]
theorem pick_head (A T : List HL) : pick (List.range A.length) (A ++ T) = A := by
  unfold pick
  refine (filterMap_ext fun i hi => ?_).trans (filterMap_range_get A)
  rw [List.getElem?_append_left (List.mem_range.1 hi)]
section
variable {dm : List Deferred} {P : Program} {n : Nat} {Q : Exit → Act → World → Prop} {K : Act → World → Prop} {e : Env} {w0 : World} {S : List Nat} {l : List HL} {d : Nat} {ty : TypeId} {pos : String} {aft : Array Edge} {gd : Option (Nat × Bool)}
end
section
variable {dm : List Deferred} {P : Program} {n : Nat} {e : Env} {w0 : World} {S : List Nat} {l l' : List HL} {fn : Func} {R : Value → List HL → Prop}
end
section
variable {w0 w : World} {S : List Nat} {l : List HL}
theorem Cells.atS {ad : Addr} {cs : List Value} (h : Cells w0 ad cs) (ho : Own w0 S w l) (hS : ad.block ∉ S) : Cells w ad cs := fun j v hv => ho.cellOld (h j v hv) (by rw [block_add]; exact hS)
end
end Go.Gv
namespace Go.Gv
open Go.RowKit
section
variable {dm : List Deferred} {P : Program} {n : Nat} {e : Env} {w0 : World} {S : List Nat} {l : List HL} {dst : Option Tmp} {ty : TypeId} {pos : String} {aft : Array Edge} {gd : Option (Nat × Bool)} {x y : Operand} {t ty' : TypeId}
theorem wrapu8_ok {z : Int} (h1 : 0 ≤ z) (h2 : z < 256) : IntKind.u8.wrap z = z := by
  unfold IntKind.wrap
  simp only [IntKind.signed, IntKind.bits, Bool.false_and, if_false, Bool.false_eq_true]
  exact Int.emod_eq_of_lt h1 (by simpa using h2)
theorem bits_u8 (a b : Nat) (ha : a < 256) (hb : b < 256) (f : Nat → Nat → Nat) (g : (k : Nat) → BitVec k → BitVec k → BitVec k) (hg : ∀ x y : BitVec 8, (g 8 x y).toNat = f x.toNat y.toNat) (hf : f a b < 256) :
    IntKind.u8.wrap ((g 8 (BitVec.ofInt 8 (a : Int)) (BitVec.ofInt 8 (b : Int))).toNat : Int) = (f a b : Nat) := by
  have e1 : (BitVec.ofInt 8 (a : Int)).toNat = a := by simp; omega
  have e2 : (BitVec.ofInt 8 (b : Int)).toNat = b := by simp; omega
  rw [hg, e1, e2]
  exact wrapu8_ok (by omega) (by omega)
theorem rd_or8 {a b : Nat} (hx : e.ev x = some (.int .u8 a)) (hy : e.ev y = some (.int .u8 b)) (ha : a < 256) (hb : b < 256) : Rd P dm n e w0 S l ⟨dst, .binOp .or t x y ty', ty, pos, aft, gd⟩ (.int .u8 ((a ||| b : Nat) : Int)) :=
  rd_bin hx hy (by decide) fun w => by
    have := bits_u8 a b ha hb (· ||| ·) (fun _ x y => x ||| y) (fun _ _ => BitVec.toNat_or ..) (Nat.or_lt_two_pow (n := 8) ha hb)
    exact congrArg (fun z => Result.ok (Value.int .u8 z) w) this
/-! ## nil -/
theorem run_equalInSl {E : TypeId} (d : Nat) (hu : P.underlying t = some (.slice E)) (a : Option Addr) (m c m2 c2 : Nat) (w : World) : (Op.equalIn (d + 1) t (.slice a m c) (.slice none m2 c2)).run P w = .ok a.isNone w := by
  simp only [Op.equalIn, Sem.run_bind, run_underlying hu, Result.andThen_ok]
  cases a <;> rfl
theorem rd_eqlNilSl {E : TypeId} {a : Option Addr} {m c m2 c2 : Nat} (hgt : P.eqGuardType P.depth t = false) (hu : P.underlying t = some (.slice E)) (hx : e.ev x = some (.slice a m c)) (hy : e.ev y = some (.slice none m2 c2)) : Rd P dm n e w0 S l ⟨dst, .binOp .eql t x y ty', ty, pos, aft, gd⟩ (.bool a.isNone) :=
  fun ac w hs ho => by
    have h := run_equalInSl (P := P) 9999 hu a m c m2 c2 w
    have h2 : (Op.equal t (.slice a m c) (.slice none m2 c2)).run P w = .ok a.isNone w := h
    simp [execOp, hs.ev hx, hs.ev hy, eqGuard, binOp, hgt, h2]
end
section
variable {dm : List Deferred} {P : Program} {n : Nat} {Q : Exit → Act → World → Prop} {K : Act → World → Prop} {e : Env} {w0 : World} {S : List Nat} {l : List HL}
end
section
variable {dm : List Deferred} {P : Program} {n : Nat} {Q : Exit → Act → World → Prop} {K : Act → World → Prop} {e : Env} {w0 : World} {S : List Nat} {l : List HL} {d : Nat} {ty : TypeId} {pos : String} {aft : Array Edge} {gd : Option (Nat × Bool)}
end
end Go.Gv
namespace Go.Gv
open Go.RowKit
section
variable {dm : List Deferred} {P : Program} {n : Nat} {e : Env} {w0 : World} {S : List Nat} {l : List HL} {dst : Option Tmp} {ty : TypeId} {pos : String} {aft : Array Edge} {gd : Option (Nat × Bool)} {x y : Operand} {t ty' : TypeId}
theorem rd_min2N {a b : Nat} {ats : Array TypeId} (hx : e.ev x = some (natV a)) (hy : e.ev y = some (natV b)) :
    Rd P dm n e w0 S l ⟨dst, .call { callee := .builtin .min, args := #[x, y], argTypes := ats }, ty, pos, aft, gd⟩ (natV (min a b)) :=
  fun a' w hs ho => by
    have e1 : (if (b : Int) < a then (b : Int) else a) = ((min a b : Nat) : Int) := by split <;> omega
    simp [execOp, resolve, invoke, builtin, hs.ev hx, hs.ev hy, Builtin.min_, Builtin.min2]
    simpa using e1
end
section
variable {dm : List Deferred} {P : Program} {n : Nat} {Q : Exit → Act → World → Prop} {K : Act → World → Prop} {e : Env} {w0 : World} {S : List Nat} {l : List HL} {d : Nat} {ty : TypeId} {pos : String} {aft : Array Edge} {gd : Option (Nat × Bool)}
end
end Go.Gv
namespace Go.Gv
open Go.RowKit
section
variable {dm : List Deferred} {P : Program} {n : Nat} {e : Env} {w0 : World} {S : List Nat} {l : List HL} {dst : Option Tmp} {ty : TypeId} {pos : String} {aft : Array Edge} {gd : Option (Nat × Bool)} {x y : Operand} {t ty' : TypeId}
end
end Go.Gv
namespace Go.Gv
open Go.RowKit
section
variable {dm : List Deferred} {P : Program} {n : Nat} {Q : Exit → Act → World → Prop} {K : Act → World → Prop} {e : Env} {w0 : World} {S : List Nat} {l : List HL} {d : Nat} {ty : TypeId} {pos : String} {aft : Array Edge} {gd : Option (Nat × Bool)}
end
section
variable {dm : List Deferred} {P : Program} {n : Nat} {e : Env} {w0 : World} {S : List Nat} {l : List HL} {dst : Option Tmp} {ty : TypeId} {pos : String} {aft : Array Edge} {gd : Option (Nat × Bool)} {x y : Operand} {t t2 ty' : TypeId}
theorem rd_eqlStr {a b : ByteArray} (hu : P.underlying t = some .string) (hgt : P.eqGuardType P.depth t = false) (hx : e.ev x = some (.string a)) (hy : e.ev y = some (.string b)) : Rd P dm n e w0 S l ⟨dst, .binOp .eql t x y ty', ty, pos, aft, gd⟩ (.bool (a.toList == b.toList)) := fun ac w hs ho => by
  simp [execOp, hs.ev hx, hs.ev hy, eqGuard, binOp, hgt, Op.stringOp]
end
end Go.Gv
namespace Go.Gv
open Go.RowKit
/-! ### maps from integers to whatever, with stamps: lookups, updates, ranges -/
structure ME (β : Type) where
  key : Int
  v : β
  born : Nat
def ME.ent {β : Type} (val : β → Value) (x : ME β) : MapEntry := ⟨.int .i64 x.key, val x.v, x.born⟩
def mget {β : Type} (k : Int) : List (ME β) → Option β
  | [] => none
  | y :: l => if k = y.key then some y.v else mget k l
def mput {β : Type} (k : Int) (v : β) (nb : Nat) : List (ME β) → List (ME β)
  | [] => [⟨k, v, nb⟩]
  | y :: l => if k = y.key then ⟨k, v, y.born⟩ :: l else y :: mput k v nb l
def mnb {β : Type} (k : Int) (m : List (ME β)) (nb : Nat) : Nat := if (mget k m).isSome then nb else nb + 1
structure MOk {β : Type} (m : List (ME β)) (nb : Nat) : Prop where
  keys : (m.map ME.key).Nodup
  borns : (m.map ME.born).Nodup
  lt : ∀ x ∈ m, x.born < nb
theorem MOk.nil {β : Type} : MOk ([] : List (ME β)) 0 := ⟨List.nodup_nil, List.nodup_nil, fun _ h => by cases h⟩
theorem mput_has {β : Type} {k : Int} {v : β} {nb : Nat} : ∀ {m : List (ME β)}, (mget k m).isSome = true → (mput k v nb m).map ME.key = m.map ME.key ∧ (mput k v nb m).map ME.born = m.map ME.born
  | [], h => by cases h
  | y :: l, h => by
    unfold mput
    unfold mget at h
    by_cases e : k = y.key
    · rw [if_pos e]; simp [e]
    · rw [if_neg e] at h ⊢
      obtain ⟨h1, h2⟩ := mput_has (v := v) (nb := nb) (m := l) h
      simp [h1, h2]
theorem mput_new {β : Type} {k : Int} {v : β} {nb : Nat} : ∀ {m : List (ME β)}, mget k m = none → mput k v nb m = m ++ [⟨k, v, nb⟩]
  | [], h => rfl
  | y :: l, h => by
    unfold mput
    unfold mget at h
    by_cases e : k = y.key
    · rw [if_pos e] at h; cases h
    · rw [if_neg e] at h ⊢
      rw [mput_new h]; rfl
theorem mget_none {β : Type} {k : Int} : ∀ {m : List (ME β)}, mget k m = none ↔ k ∉ m.map ME.key
  | [] => by simp [mget]
  | y :: l => by
    unfold mget
    by_cases e : k = y.key
    · rw [if_pos e]; simp [e]
    · rw [if_neg e, mget_none (m := l)]; simp [e]
theorem MOk.put {β : Type} {m : List (ME β)} {nb : Nat} (h : MOk m nb) (k : Int) (v : β) : MOk (mput k v nb m) (mnb k m nb) := by
  unfold mnb
  cases hg : mget k m with
  | some y =>
    obtain ⟨h1, h2⟩ := mput_has (v := v) (nb := nb) (m := m) (by rw [hg]; rfl)
    rw [if_pos (show (some y).isSome = true from rfl)]
    refine ⟨by rw [h1]; exact h.keys, by rw [h2]; exact h.borns, fun x hx => ?_⟩
    have : x.born ∈ m.map ME.born := by rw [← h2]; exact List.mem_map_of_mem hx
    obtain ⟨z, hz, e⟩ := List.mem_map.1 this
    rw [← e]; exact h.lt z hz
  | none =>
    rw [if_neg (by simp), mput_new hg]
    have hk := mget_none.1 hg
    refine ⟨?_, ?_, fun x hx => ?_⟩
    · rw [List.map_append, List.nodup_append]
      exact ⟨h.keys, by simp, fun a ha b hb e => by simp at hb; subst hb; subst e; exact hk ha⟩
    · rw [List.map_append, List.nodup_append]
      refine ⟨h.borns, by simp, fun a ha b hb e => ?_⟩
      simp at hb; subst hb; subst e
      obtain ⟨z, hz, e⟩ := List.mem_map.1 ha
      have := h.lt z hz
      omega
    · rcases List.mem_append.1 hx with hx | hx
      · have := h.lt x hx; omega
      · simp at hx; subst hx; simp
section
variable {dm : List Deferred} {P : Program} {n : Nat} {Q : Exit → Act → World → Prop} {K : Act → World → Prop} {e : Env} {w0 : World} {S : List Nat} {l : List HL} {d : Nat} {dst : Option Nat} {ty : TypeId} {pos : String} {aft : Array Edge} {gd : Option (Nat × Bool)}
end
/-! ### heaplets and a tail -/
section
variable {dm : List Deferred} {P : Program} {n : Nat} {Q : Exit → Act → World → Prop} {K : Act → World → Prop} {e : Env} {w0 : World} {S : List Nat} {l : List HL} {d : Nat} {ty : TypeId} {pos : String} {aft : Array Edge} {gd : Option (Nat × Bool)}
def tailIx (B T : List HL) : List Nat := (List.range T.length).map (· + B.length)
theorem pick_app (B T : List HL) : ∀ ic : List Nat, (∀ i ∈ ic, i < B.length) → pick ic (B ++ T) = pick ic B := fun ic h => by
  unfold pick
  exact filterMap_ext fun i hi => List.getElem?_append_left (h i hi)
theorem pick_appT (B T : List HL) (ic : List Nat) (h : ∀ i ∈ ic, i < B.length) : pick (ic ++ tailIx B T) (B ++ T) = pick ic B ++ T := by
  have h2 := pick_tail B T
  rw [show pick (ic ++ tailIx B T) (B ++ T) = pick ic (B ++ T) ++ pick (tailIx B T) (B ++ T) by simp [pick], pick_app B T ic h]
  unfold tailIx
  rw [h2]
theorem nodup_tail {B T : List HL} {ic : List Nat} (h : ic.Nodup) (hl : ∀ i ∈ ic, i < B.length) : (ic ++ tailIx B T).Nodup := by
  rw [List.nodup_append]
  refine ⟨h, List.Pairwise.map _ (fun a b hab => by omega) List.nodup_range, fun a ha b hb e => ?_⟩
  obtain ⟨q, _, rfl⟩ := List.mem_map.1 hb
  have := hl a ha
  omega
/-- a call that consumes some, and leaves the tail -/
theorem op_callMT (B T : List HL) (ic ir : List Nat) (m : Nat) {F : FuncId} {vf vc : List Value} {x : Operand} {xs : List Operand} {at_ : Array TypeId} {vs : List Value} {Sc : List Nat} {R : Value → List HL → Prop} (hl : l = B ++ T) (hm : B.length = m) (hd : Nat.ble n d = false) (hx : e.ev x = some (.func (.func F) vf.toArray vc.toArray)) (hxs : e.evs xs = some vs)
    (hcall : ∀ args w, (callFunc F args).run P w = .ok (.enter F args) w) (hno : (ic ++ ir).Nodup) (hlt : ∀ i ∈ ic ++ ir, i < m) (hSc : Sc = (pick ic B).filterMap HL.block)
    (hspec : ∀ w, Own w0 S w l → Own w Sc w (pick ic B) → Sp P F (vf ++ vs ++ vc) w Sc R) (k : ∀ v l1, R v l1 → GK dm n K ((d, v) :: e) w0 S (l1 ++ (pick ir B ++ T))) :
    GK dm n (fun a w => Oper.wp P ⟨some d, .call { callee := .value x, args := xs.toArray, argTypes := at_ }, ty, pos, aft, gd⟩ a w K Q) e w0 S l := by
  subst hl; subst hm
  have h1 : ∀ i ∈ ic, i < B.length := fun i hi => hlt i (List.mem_append_left _ hi)
  have h2 : ∀ i ∈ ir, i < B.length := fun i hi => hlt i (List.mem_append_right _ hi)
  refine op_callM ic (ir ++ tailIx B T) hd hx hxs hcall ?_ (by rw [pick_app B T ic h1]; exact hSc) (fun w ho hc => hspec w ho (by rw [pick_app B T ic h1] at hc; exact hc)) (fun v l1 hR => ?_)
  · rw [← List.append_assoc]; exact nodup_tail hno hlt
  · rw [pick_appT B T ir h2]; exact k v l1 hR
end
section
variable {dm : List Deferred} {P : Program} {n : Nat} {e : Env} {w0 : World} {S : List Nat} {l l' : List HL} {fn : Func} {R : Value → List HL → Prop}
theorem gx_ret2S {t u : Tmp} {v v2 : Value} {x : Exit} (hx : x = .ret ∨ x = .normal) (hr : fn.results = #[.tmp t, .tmp u]) (hv : e.get t = some v) (hv2 : e.get u = some v2) (hs : Sub l' l) (h : R (.tuple #[v, v2]) l') : GK [] n (bodyPost P fn (RetR w0 S R) x) e w0 S l := by
  obtain ⟨idx, hi, rfl⟩ := hs
  exact gx_ret2 hx hr hv hv2 idx hi h
end
end Go.Gv
namespace Go.Gv
open Go.RowKit
section
variable {dm : List Deferred} {P : Program} {n : Nat} {e : Env} {w0 : World} {S : List Nat} {l : List HL} {dst : Option Tmp} {ty : TypeId} {pos : String} {aft : Array Edge} {gd : Option (Nat × Bool)} {x y : Operand} {t t2 ty' : TypeId}
end
section
variable {dm : List Deferred} {P : Program} {n : Nat} {Q : Exit → Act → World → Prop} {K : Act → World → Prop} {e : Env} {w0 : World} {S : List Nat} {l : List HL} {d : Nat} {ty : TypeId} {pos : String} {aft : Array Edge} {gd : Option (Nat × Bool)}
/-- the same, the tail is left -/
theorem slOutT {w : World} {B T : List HL} (ho : Own w0 S w (B ++ T)) {a : Option Addr} {m sz : Nat} {cs : List Value} (h : OldSl w0 S a m sz cs) (hsz : 0 < sz) (ic : List Nat) : OldSl w ((pick ic B).filterMap HL.block) a m sz cs := by
  refine ⟨h.len, h.isSome, (h.at ho).cells, fun hm hb => ?_⟩
  obtain ⟨y, hy, hyb⟩ := List.mem_filterMap.1 hb
  rcases ho.place y (List.mem_append_left _ (pick_mem hy)) _ hyb with h1 | h1
  · exact h.out hm h1
  · have := h.lt hm hsz; omega
end
end Go.Gv
namespace Go.Gv
open Go.RowKit
/-! ## The same walk in a round of a range over a function, and in an iterator -/
/-- no fence but a round's -/
def fen (o : Option Nat) : Fence := { Fence.wide with round := o }
theorem fen_inRound (o : Option Nat) (l : Nat) : (fen o).inRound l = fen (some l) := rfl
theorem callsIn_fen {o : Option Nat} {n : Nat} {P : Program} {f : FuncId} {args : Array Value} {w : World} {R : Ending → World → Prop} (h : Calls P f args w R) : CallsIn (fen o) n P f args w R :=
  (callsIn_wide (n := n)).2 h
/-- an operation that is no defer statement and asks for no round -/
theorem op_in {o : Option Nat} {k : Nat} {P : Program} {x : Oper} {a : Act} {w : World} {K : Act → World → Prop} {Q : Exit → Act → World → Prop} (hnd : ∀ c, x.op ≠ .defer c) (h : Oper.wp P x a w K Q) : Oper.wpIn (fen o) k P x a w K Q := by
  refine ⟨fun _ _ => trivial, ?_⟩
  have e : x.semAt (fen o).round a.eval = execOp a.eval x := Oper.semAt_eq _ _ _ hnd
  rw [e]
  unfold Oper.wp at h
  generalize (execOp a.eval x).run P w = r at h ⊢
  unfold Oper.upon at h
  unfold Oper.uponIn
  split at h
  · exact h
  · exact h
  · exact h
  · exact ⟨fun hd => by simp [fen, Fence.wide] at hd, callsIn_fen h⟩
  · exact ⟨fun hd => by simp [fen, Fence.wide] at hd, fun c cs _ => by
      obtain ⟨v, w', hr, hs⟩ := h c cs
      exact ⟨v, w', hr, stepsIn_wide.2 hs⟩⟩
  · exact h
  · exact h.elim
section
variable {dm : List Deferred} {P : Program} {n m : Nat} {o : Option Nat} {Q : Exit → Act → World → Prop} {K : Act → World → Prop} {e : Env} {w0 : World} {S : List Nat} {l l' : List HL}
abbrev wpR (o : Option Nat) (P : Program) (c : Code) (Q : Exit → Act → World → Prop) : Act → World → Prop := c.wpIn (fen o) 0 P Q
theorem rc_seq {x y : Code} (h : GK dm n (wpR o P x (Exit.then (wpR o P y Q) Q)) e w0 S l) : GK dm n (wpR o P (Code.seq x y) Q) e w0 S l := fun a w hs ho => wpIn_seq (h a w hs ho)
theorem rc_block {id : Nat} {c : Code} (h : GK dm n (wpR o P c (Exit.inBlock id Q)) e w0 S l) : GK dm n (wpR o P (Code.block id c) Q) e w0 S l := fun a w hs ho => wpIn_block (h a w hs ho)
theorem rc_skip (h : GK dm n (Q .normal) e w0 S l) : GK dm n (wpR o P Code.skip Q) e w0 S l := fun a w hs ho => wpIn_skip (h a w hs ho)
theorem rc_exit {id : Nat} (h : GK dm n (Q (.exit id)) e w0 S l) : GK dm n (wpR o P (Code.exit id) Q) e w0 S l := fun a w hs ho => wpIn_exit (h a w hs ho)
theorem rc_ret (h : GK dm n (Q .ret) e w0 S l) : GK dm n (wpR o P Code.ret Q) e w0 S l := fun a w hs ho => wpIn_ret (h a w hs ho)
theorem rc_region {id : Nat} {ops : List Oper} (h : GK dm n (wpListIn (fen o) 0 P ops.toArray Q ops) e w0 S l) : GK dm n (wpR o P (Code.region id ops.toArray false) Q) e w0 S l := fun a w hs ho => wpIn_region_lit (h a w hs ho)
theorem rc_cond_t {c : Operand} {x y : Code} (hc : e.ev c = some (.bool true)) (ht : GK dm n (wpR o P x Q) e w0 S l) : GK dm n (wpR o P (Code.cond c x y) Q) e w0 S l := fun a w hs ho => wpIn_cond_true (hs.ev hc) (ht a w hs ho)
theorem rc_cond_f {c : Operand} {x y : Code} (hc : e.ev c = some (.bool false)) (ht : GK dm n (wpR o P y Q) e w0 S l) : GK dm n (wpR o P (Code.cond c x y) Q) e w0 S l := fun a w hs ho => wpIn_cond_false (hs.ev hc) (ht a w hs ho)
/-- the loop -/
theorem rc_loop {c : Code} {ι : Type} (p : ι → Prop) (E : ι → Env) (L : ι → List HL) (m : ι → Nat) (j0 : ι) (hp : p j0) (he : Env.le (E j0) e) (hl : Sub (L j0) l)
    (body : ∀ j, p j → GK dm n (wpR o P c (Exit.then (fun a w => ∃ j', (p j' ∧ m j' < m j) ∧ Sat dm n a (E j') ∧ Own w0 S w (L j')) Q)) (E j) w0 S (L j)) :
    GK dm n (wpR o P (Code.loop c) Q) e w0 S l := by
  intro a w hs ho b kk cs hro hb hr
  have key : ∀ k : Nat, ∀ (j : ι), m j = k → p j → ∀ a w, Sat dm n a (E j) → Own w0 S w (L j) →
      ∃ x a' w', Q x a' w' ∧ ArrivesIn (Machine.fenced P (fen o)) P (lone (b.atR a (.code c :: .inLoop c :: kk)) cs w) b kk cs x a' w' := by
    intro k
    induction k using Nat.strongRecOn with
    | _ k ih =>
      intro j hk hpj a w hs ho
      obtain ⟨x, a1, w1, hq, harr⟩ := body j hpj a w hs ho b (.inLoop c :: kk) cs hro hb hr
      cases x with
      | normal =>
        obtain ⟨j', ⟨hp', hlt⟩, hs', ho'⟩ := hq
        obtain ⟨x2, a2, w2, hq2, harr2⟩ := ih (m j') (hk ▸ hlt) j' rfl hp' a1 w1 hs' ho'
        exact ⟨x2, a2, w2, hq2, .of_steps (StepsIn.trans harr (.one (fenced_calm hb hr rfl) stepR_inLoop)) harr2⟩
      | exit id => exact ⟨_, a1, w1, hq, .pass (x := .inLoop c) rfl (fun _ _ => .inl (by simp)) harr⟩
      | goto id => exact ⟨_, a1, w1, hq, .pass (x := .inLoop c) rfl (fun _ _ => .inl (by simp)) harr⟩
      | ret => exact ⟨_, a1, w1, hq, .pass (x := .inLoop c) rfl (fun _ _ => .inl (by simp)) harr⟩
      | panic ch => exact ⟨_, a1, w1, hq, .pass (x := .inLoop c) rfl (fun _ _ => .inl (by simp)) harr⟩
      | outgrown => exact ⟨_, a1, w1, hq, .pass (x := .inLoop c) rfl (fun _ _ => .inl (by simp)) harr⟩
  obtain ⟨x, a', w', hq, harr⟩ := key _ j0 rfl hp a w (hs.le he) (ho.sub hl)
  exact ⟨x, a', w', hq, .of_steps (.one (fenced_calm hb hr rfl) stepR_loop) harr⟩
theorem rc_loopF {c : Code} {ι : Type} (F : Env) (Lk : List HL) (p : ι → Prop) (E : ι → Env → Env) (L : ι → List HL → List HL) (m : ι → Nat) (j0 : ι) (hp : p j0) (he : Env.le (E j0 F) e) (hl : Sub (L j0 Lk) l)
    (body : ∀ j, p j → GK dm n (wpR o P c (Exit.then (fun a w => ∃ j', (p j' ∧ m j' < m j) ∧ Sat dm n a (E j' F) ∧ Own w0 S w (L j' Lk)) Q)) (E j F) w0 S (L j Lk)) :
    GK dm n (wpR o P (Code.loop c) Q) e w0 S l :=
  rc_loop p (fun j => E j F) (fun j => L j Lk) m j0 hp he hl body
end
section
variable {dm : List Deferred} {P : Program} {n d : Nat} {o : Option Nat} {Q : Exit → Act → World → Prop} {ops : Array Oper} {e : Env} {w0 : World} {S : List Nat} {l : List HL} {dst : Option Tmp} {ty : TypeId} {pos : String} {aft : Array Edge} {rest : List Oper}
theorem rl_nil (h : GK dm n (Q .normal) e w0 S l) : GK dm n (wpListIn (fen o) 0 P ops Q []) e w0 S l := h
theorem rl_op {op : Op} (hnd : ∀ c, op ≠ .defer c) (h : GK dm n (fun a w => Oper.wp P ⟨dst, op, ty, pos, aft, none⟩ a w (wpListIn (fen o) 0 P ops Q rest) Q) e w0 S l) : GK dm n (wpListIn (fen o) 0 P ops Q (⟨dst, op, ty, pos, aft, none⟩ :: rest)) e w0 S l :=
  fun a w hs ho => by
    unfold wpListIn
    rw [if_pos (by simp [Region.wanted])]
    exact op_in hnd (h a w hs ho)
theorem rl_yes {op : Op} {j dj : Nat} {b : Bool} (hnd : ∀ c, op ≠ .defer c) (hj : (ops[j]?).bind (·.dst) = some dj) (hb : e.get dj = some (.bool b))
    (h : GK dm n (fun a w => Oper.wp P ⟨dst, op, ty, pos, aft, some (j, b)⟩ a w (wpListIn (fen o) 0 P ops Q rest) Q) e w0 S l) : GK dm n (wpListIn (fen o) 0 P ops Q (⟨dst, op, ty, pos, aft, some (j, b)⟩ :: rest)) e w0 S l :=
  fun a w hs ho => by
    have hy := yielded_of hs hj hb
    unfold wpListIn
    rw [if_pos (by simp [Region.wanted, hy])]
    exact op_in hnd (h a w hs ho)
theorem rl_no {op : Op} {j dj : Nat} {b : Bool} (hj : (ops[j]?).bind (·.dst) = some dj) (hb : e.get dj = some (.bool (!b))) (hd : Nat.ble n d = false)
    (h : GK dm n (wpListIn (fen o) 0 P ops Q rest) ((d, undef) :: e) w0 S l) : GK dm n (wpListIn (fen o) 0 P ops Q (⟨some d, op, ty, pos, aft, some (j, b)⟩ :: rest)) e w0 S l :=
  fun a w hs ho => by
    have hy := yielded_of hs hj hb
    unfold wpListIn
    rw [if_neg (by cases b <;> simp [Region.wanted, hy])]
    exact ⟨fun _ _ => trivial, h _ _ (hs.put (blt_lt hd) _) ho⟩
end
end Go.Gv
namespace Go.Gv
open Go.RowKit
/-! ## A range over a function: marks, yield -/
abbrev mark (D : Nat) : Deferred := { target := .collected D, args := #[] }
abbrev markH (D : Nat) : HL := .obj D (.deferred (some []))
theorem Own.tail {w0 w : World} {S : List Nat} {x : HL} {l : List HL} (h : Own w0 S w (x :: l)) : Own w0 S w l :=
  ⟨h.os, h.tape, h.output, h.size, h.old, fun y hy => h.holds y (List.mem_cons_of_mem _ hy), fun y hy => h.place y (List.mem_cons_of_mem _ hy), by
    have := h.nodup
    simp only [List.filterMap_cons] at this
    cases hx : x.block with
    | none => rw [hx] at this; exact this
    | some b => rw [hx] at this; exact (List.nodup_cons.1 this).2⟩
section
variable {P : Program} {fn : Func} {w0 : World} {S : List Nat}
theorem leaves_marks {F : Fence} {k : Nat} {tmps : Array Value} {R0 : Ending → World → Prop} {l : List HL} (hfin : ∀ w', Own w0 S w' l → ∃ v, (results fn tmps).run P w' = .ok v w' ∧ R0 (.returned v) w') :
    ∀ (Ds : List Nat) (w : World), Own w0 S w (Ds.map markH ++ l) → LeavesInM F k P fn tmps R0 (Ds.map mark) .returning w
  | [], w, ho => hfin w ho
  | D :: Ds, w, ho => by
    have hD : w.heap[D]? = some (.deferred (some [])) := ho.holds (markH D) List.mem_cons_self
    have hlt : D < w.heap.size := (Array.getElem?_eq_some_iff.1 hD).1
    refine ⟨by simp, .inl ⟨D, w.putObj D (.deferred none), rfl, run_takeDeferred hD, leaves_marks hfin Ds _ ?_⟩⟩
    have h2 := ho.turn (i := 0) (y := .obj D (.deferred none)) (w' := w.putObj D (.deferred none)) rfl rfl rfl rfl (by simp) (fun b hb hne => World.putObj_heap_other fun e => hne (by rw [e]; rfl)) (World.putObj_heap_same hlt) (fun b hb => .inl hb)
    exact h2.tail
theorem spec_enterM {f : FuncId} {c : Code} {args : List Value} {R : Value → List HL → Prop} {n : Nat} {l : List HL} (hf : P.funcs[f]? = some fn) (hb : fn.body = some c) (hn : fn.ntmps = n) (hle : Nat.ble args.length n = true)
    (ho : Own w0 S w0 l) (h : GK [] n (wpR none P c (bodyPostM (fen none) 0 P fn (RetR w0 S R))) (argEnv 0 args) w0 S l) : Sp P f args w0 S R := by
  subst hn
  have hle' : args.length ≤ fn.ntmps := Nat.le_of_ble_eq_true hle
  refine (callsIn_wide (n := 0)).1 (callsIn_of_wp_marks hf hb trivial (h _ w0 ⟨?_, rfl, ?_⟩ ho))
  · simp; omega
  · intro i v hv
    obtain ⟨_, h2⟩ := argEnv_get args 0 i v hv
    have hlt : i < args.length := by
      rcases Nat.lt_or_ge i args.length with h | h
      · exact h
      · simp at h2; rw [List.getElem?_eq_none h] at h2; cases h2
    simp at h2
    rw [List.getElem?_eq_getElem hlt, Option.some.injEq] at h2
    simp [Array.getElem?_append, hlt, h2]
/-- the way out of a function with marks -/
theorem gx_retM {n : Nat} {e : Env} {l l' : List HL} {R : Value → List HL → Prop} {v : Value} {x : Exit} (Ds : List Nat) (hx : x = .ret ∨ x = .normal) (hr : ∀ a w, Sat (Ds.map mark) n a e → (results fn a.tmps).run P w = .ok v w) (hs : Sub (Ds.map markH ++ l') l) (h : R v l') : GK (Ds.map mark) n (bodyPostM (fen none) 0 P fn (RetR w0 S R) x) e w0 S l := fun a w hsat ho => by
  have key : LeavesInM (fen none) 0 P fn a.tmps (RetR w0 S R) a.defers .returning w := by
    rw [hsat.defers]
    exact leaves_marks (fun w' ho' => ⟨v, hr a w' hsat, v, l', rfl, h, ho'⟩) Ds w (ho.sub hs)
  rcases hx with rfl | rfl <;> exact key
end
section
variable {dm : List Deferred} {P : Program} {n m : Nat} {o : Option Nat} {Q : Exit → Act → World → Prop} {K : Act → World → Prop} {e : Env} {w0 : World} {S : List Nat} {l l' : List HL}
/-- the loop, the marks growing -/
theorem rc_loopM {c : Code} {ι : Type} (F : Env) (Lk : List HL) (p : ι → Prop) (D : ι → List Deferred) (E : ι → Env → Env) (L : ι → List HL → List HL) (m : ι → Nat) (j0 : ι) (hp : p j0) (hD : D j0 = dm) (he : Env.le (E j0 F) e) (hl : Sub (L j0 Lk) l)
    (body : ∀ j, p j → GK (D j) n (wpR o P c (Exit.then (fun a w => ∃ j', (p j' ∧ m j' < m j) ∧ Sat (D j') n a (E j' F) ∧ Own w0 S w (L j' Lk)) Q)) (E j F) w0 S (L j Lk)) :
    GK dm n (wpR o P (Code.loop c) Q) e w0 S l := by
  subst hD
  intro a w hs ho b kk cs hro hb hr
  have key : ∀ k : Nat, ∀ (j : ι), m j = k → p j → ∀ a w, Sat (D j) n a (E j F) → Own w0 S w (L j Lk) →
      ∃ x a' w', Q x a' w' ∧ ArrivesIn (Machine.fenced P (fen o)) P (lone (b.atR a (.code c :: .inLoop c :: kk)) cs w) b kk cs x a' w' := by
    intro k
    induction k using Nat.strongRecOn with
    | _ k ih =>
      intro j hk hpj a w hs ho
      obtain ⟨x, a1, w1, hq, harr⟩ := body j hpj a w hs ho b (.inLoop c :: kk) cs hro hb hr
      cases x with
      | normal =>
        obtain ⟨j', ⟨hp', hlt⟩, hs', ho'⟩ := hq
        obtain ⟨x2, a2, w2, hq2, harr2⟩ := ih (m j') (hk ▸ hlt) j' rfl hp' a1 w1 hs' ho'
        exact ⟨x2, a2, w2, hq2, .of_steps (StepsIn.trans harr (.one (fenced_calm hb hr rfl) stepR_inLoop)) harr2⟩
      | exit id => exact ⟨_, a1, w1, hq, .pass (x := .inLoop c) rfl (fun _ _ => .inl (by simp)) harr⟩
      | goto id => exact ⟨_, a1, w1, hq, .pass (x := .inLoop c) rfl (fun _ _ => .inl (by simp)) harr⟩
      | ret => exact ⟨_, a1, w1, hq, .pass (x := .inLoop c) rfl (fun _ _ => .inl (by simp)) harr⟩
      | panic ch => exact ⟨_, a1, w1, hq, .pass (x := .inLoop c) rfl (fun _ _ => .inl (by simp)) harr⟩
      | outgrown => exact ⟨_, a1, w1, hq, .pass (x := .inLoop c) rfl (fun _ _ => .inl (by simp)) harr⟩
  obtain ⟨x, a', w', hq, harr⟩ := key _ j0 rfl hp a w (hs.le he) (ho.sub hl)
  exact ⟨x, a', w', hq, .of_steps (.one (fenced_calm hb hr rfl) stepR_loop) harr⟩
/-- what a round of the caller's does: the memory goes from J i to J (i + 1), or the loop is left (Jx i) -/
def YOk (P : Program) (lb : Nat) (N : Nat) (xs : Nat → List Value) (J Jx : Nat → List HL → Prop) (wb : World) (Sb : List Nat) : Prop :=
  ∀ i, i < N → ∀ L, J i L → ∀ w, Own wb Sb w L → YieldAt (fen none) 0 P lb (xs i).toArray w fun en w' =>
    ∃ L', ((en = .returned (.bool true) ∧ J (i + 1) L') ∨ (en = .returned (.bool false) ∧ Jx i L')) ∧ Own w (L.filterMap HL.block) w' L'
theorem Own.self {w : World} (h : Own w0 S w l) : Own w (l.filterMap HL.block) w l :=
  ⟨rfl, rfl, rfl, Nat.le_refl _, fun _ _ _ => rfl, h.holds, fun x hx b hb => .inl (List.mem_filterMap.2 ⟨x, hx, hb⟩), h.nodup⟩
theorem op_yield (B T : List HL) {lb N i d : Nat} {xs : Nat → List Value} {J Jx : Nat → List HL → Prop} {x : Operand} {ys : List Operand} {at_ : Array TypeId} {ty : TypeId} {pos : String} {aft : Array Edge} {gd : Option (Nat × Bool)} (hY : YOk P lb N xs J Jx w0 S) (hi : i < N) (hJ : J i T) (hl : l = B ++ T) (hd : Nat.ble n d = false)
    (hx : e.ev x = some (.func (.yield lb) #[] #[])) (hys : e.evs ys = some (xs i)) (kt : ∀ T', J (i + 1) T' → GK dm n K ((d, .bool true) :: e) w0 S (B ++ T')) (kf : ∀ T', Jx i T' → GK dm n K ((d, .bool false) :: e) w0 S (B ++ T')) :
    GK dm n (fun a w => Oper.wpIn (fen none) 0 P ⟨some d, .call { callee := .value x, args := ys.toArray, argTypes := at_ }, ty, pos, aft, gd⟩ a w K Q) e w0 S l := fun a w hs ho => by
  subst hl
  have hoB : Own w0 S w B := ho.sub ⟨List.range B.length, List.nodup_range, (pick_head B T).symm⟩
  have hoT : Own w0 S w T := ho.sub ⟨(List.range T.length).map (· + B.length), List.Pairwise.map _ (fun a b hab => by omega) List.nodup_range, (pick_tail B T).symm⟩
  obtain ⟨f, tmps, asg, body, hy, hR⟩ := hY i hi T hJ w hoT
  refine ⟨fun _ _ => trivial, ?_⟩
  have h1 := hs.evs hys
  have hr : (Oper.semAt (fen none).round a.eval ⟨some d, .call { callee := .value x, args := ys.toArray, argTypes := at_ }, ty, pos, aft, gd⟩).run P w = .ok (.round lb f tmps asg body) w := by
    rw [show (fen none).round = none from rfl, Oper.semAt_none]
    simp [execOp, resolve, Deferred.ofValue, invoke, hs.ev hx, h1, hy]
  rw [hr, Oper.uponIn_round]
  refine ⟨fun hd => by simp [fen, Fence.wide] at hd, RoundIn.mono hR ?_⟩
  rintro en w' ⟨L', hen, hoL⟩
  have hown : Own w0 S w' (B ++ L') := by
    refine (Own.called ho hoL hoB (fun b hb => ?_) (fun y hy b hb hbT => ?_)).sub (sub_rot L' B)
    · obtain ⟨y, hy, hyb⟩ := List.mem_filterMap.1 hb
      exact ho.place y (List.mem_append_right _ hy) b hyb
    · have hnd := ho.nodup
      rw [List.filterMap_append, List.nodup_append] at hnd
      exact hnd.2.2 b (List.mem_filterMap.2 ⟨y, hy, hb⟩) b hbT rfl
  rcases hen with ⟨rfl, hJ'⟩ | ⟨rfl, hJ'⟩
  · exact kt L' hJ' _ _ (hs.put (blt_lt hd) _) hown
  · exact kf L' hJ' _ _ (hs.put (blt_lt hd) _) hown
end
end Go.Gv
namespace Go.Gv
open Go.RowKit
/-! ## The statement 'for x := range f { .. }' with one variable, outermost -/
section
variable {dm : List Deferred} {P : Program} {n : Nat} {Q : Exit → Act → World → Prop} {e : Env} {w0 : World} {S : List Nat} {l : List HL}
/-- what a round's body leaves: the next round's memory, or the way out and its memory -/
def RPost (w1 : World) (S1 : List Nat) (hd : List HL) (I : Nat → List HL → Prop) (Ix : Code → Nat → List HL → Prop) (i : Nat) : Exit → Act → World → Prop
  | .normal, _, w => ∃ L, I (i + 1) L ∧ Own w1 S1 w (hd ++ L)
  | .ret, _, w => ∃ L, Ix .ret i L ∧ Own w1 S1 w (hd ++ L)
  | .exit c, _, w => ∃ L, Ix (.exit c) i L ∧ Own w1 S1 w (hd ++ L)
  | .goto t, _, w => ∃ L, Ix (.goto t) i L ∧ Own w1 S1 w (hd ++ L)
  | .panic _, _, _ => False
  | .outgrown, _, _ => False
theorem sat_round {a : Act} (hs : Sat dm n a e) {p : Tmp} (hp : p < n) (v : Value) : Sat [] n { tmps := a.tmps.setIfInBounds p v, defers := [] } ((p, v) :: e) := by
  have h := hs.put hp v
  exact ⟨h.size, rfl, h.get⟩
theorem own_obj {w1 w : World} {S1 : List Nat} {b : Nat} {o o' : Obj} {L : List HL} (ho : Own w1 S1 w (.obj b o :: L)) : Own w1 S1 (w.putObj b o') (.obj b o' :: L) := by
  have hD : w.heap[b]? = some o := ho.holds (.obj b o) List.mem_cons_self
  have hlt : b < w.heap.size := (Array.getElem?_eq_some_iff.1 hD).1
  exact ho.turn (i := 0) (y := .obj b o') (w' := w.putObj b o') rfl rfl rfl rfl (by simp) (fun c hc hne => World.putObj_heap_other fun e => hne (by rw [e]; rfl)) (World.putObj_heap_same hlt) (fun c hc => .inl hc)
theorem own_objAt {w1 w : World} {S1 : List Nat} {b : Nat} {o o' : Obj} {A L : List HL} (ho : Own w1 S1 w (A ++ .obj b o :: L)) : Own w1 S1 (w.putObj b o') (A ++ .obj b o' :: L) := by
  have hi : (A ++ HL.obj b o :: L)[A.length]? = some (.obj b o) := by rw [List.getElem?_append_right (Nat.le_refl _), Nat.sub_self]; rfl
  have hD : w.heap[b]? = some o := ho.holds (.obj b o) (List.mem_of_getElem? hi)
  have hlt : b < w.heap.size := (Array.getElem?_eq_some_iff.1 hD).1
  have := ho.turn (i := A.length) (y := .obj b o') (w' := w.putObj b o') hi rfl rfl rfl (by simp) (fun c hc hne => World.putObj_heap_other fun e => hne (by rw [e]; rfl)) (World.putObj_heap_same hlt) (fun c hc => .inl hc)
  rwa [List.set_append_right _ _ (Nat.le_refl _), Nat.sub_self, List.set_cons_zero] at this
theorem rc_rangeF {β : Type} {g : Operand} {p : Tmp} {assign body : Code} {gf : FuncId} {caps : List Value} {N : Nat} {xs : Nat → Value} (E : Nat → β → Env) (Z : Nat → β → List HL)
    (hg : e.ev g = some (.func (.func gf) #[] caps.toArray)) (hcall : ∀ args w, (callFunc gf args).run P w = .ok (.enter gf args) w) (hp : Nat.ble n p = false)
    (I : Nat → List HL → Prop) (Ix : Code → Nat → List HL → Prop) (G : List HL → Prop) (hG : ∀ i L hd, (I i L ∨ ∃ c, Ix c i L) → G (hd ++ L)) (h0 : I 0 l)
    (hit : ∀ lb (J Jx : Nat → List HL → Prop), (∀ i L, J i L → G L) → ∀ w1 L, YOk P lb N (fun i => [xs i]) J Jx w1 (L.filterMap HL.block) → J 0 L → Own w0 S w1 L →
      Sp P gf (.func (.yield lb) #[] #[] :: caps) w1 (L.filterMap HL.block) (fun _ L' => J N L' ∨ ∃ i, i < N ∧ Jx i L'))
    (hasg : ∀ i lb w1 S1 L1 (K' : Act → World → Prop) (Q' : Exit → Act → World → Prop), (∀ b, GK [] n K' (E i b ++ e) w1 S1 (Z i b ++ L1)) → GK [] n (wpR (some lb) P assign (Exit.then K' Q')) ((p, xs i) :: e) w1 S1 L1)
    (hbody : ∀ i, i < N → ∀ L, I i L → ∀ lb D rec w1 S1 b rec', Own w0 S w1 (.obj lb rec' :: markH D :: L) → S1 = (HL.obj lb rec' :: markH D :: L).filterMap HL.block → GK [] n (wpR (some lb) P body (RPost w1 S1 [.obj lb (.loop rec), markH D] I Ix i)) (E i b ++ e) w1 S1 (Z i b ++ ([.obj lb (.loop rec), markH D] ++ L)))
    (hdone : ∀ D L, I N L → GK (mark D :: dm) n (Q .normal) e w0 S (markH D :: L))
    (hstop : ∀ D c i L, i < N → Ix c i L → GK (mark D :: dm) n (wpR none P c Q) e w0 S (markH D :: L)) :
    GK dm n (wpR none P (Code.rangeFunc g #[p] assign body) Q) e w0 S l := fun a w hs ho => by
  refine wpIn_rangeFunc fun fn _ => ?_
  obtain ⟨rec, hrec⟩ : ∃ rec : LoopState → Option Code → Loop, rec = fun st pe => { state := st, pending := pe, fn, tmps := a.tmps, params := #[p], assign, body, defers := w.heap.size } := ⟨_, rfl⟩
  obtain ⟨D, hD⟩ : ∃ D, w.heap.size = D := ⟨_, rfl⟩
  obtain ⟨W, hW⟩ : ∃ W, (w.alloc (.deferred (some []))).alloc (.loop (rec .ready none)) = W := ⟨_, rfl⟩
  have hen : (Instr.enterLoop fn a.tmps #[p] assign body (fen none).round).run P w = .ok (D + 1, [mark D]) W := by
    rw [← hW, hrec, ← hD]; exact run_enterLoop_outer _ _ _ _ _
  have hoW : Own w0 S W (.obj (D + 1) (.loop (rec .ready none)) :: markH D :: l) := by
    rw [← hW, ← hD]
    have h1 := ho.alloc (markH w.heap.size) (.deferred (some [])) rfl (heap_alloc_new w _)
    have hsz : (w.alloc (.deferred (some []))).heap.size = w.heap.size + 1 := by simp
    have h2 := h1.alloc (.obj (w.heap.size + 1) (.loop (rec .ready none))) (.loop (rec .ready none)) (by rw [hsz]; rfl) (by rw [← hsz]; exact heap_alloc_new _ _)
    exact h2
  have hgv : a.eval g = .func (.func gf) #[] caps.toArray := hs.ev hg
  obtain ⟨J, hJ⟩ : ∃ J : Nat → List HL → Prop, J = fun i L => ∃ L0, I i L0 ∧ L = .obj (D + 1) (.loop (rec .ready none)) :: markH D :: L0 := ⟨_, rfl⟩
  obtain ⟨Jx, hJx⟩ : ∃ Jx : Nat → List HL → Prop, Jx = fun i L => ∃ c L0, Ix c i L0 ∧ L = .obj (D + 1) (.loop (rec .done (some c))) :: markH D :: L0 := ⟨_, rfl⟩
  have hpn : p < n := blt_lt hp
  have hY : YOk P (D + 1) N (fun i => [xs i]) J Jx W ((HL.obj (D + 1) (.loop (rec .ready none)) :: markH D :: l).filterMap HL.block) := fun i hi L hL w1 ho9 => by
    have ho1 := ho9.self
    have hO9 : Own w0 S w1 L := by
      have := Own.called hoW ho9 (lr := []) ⟨hoW.os, hoW.tape, hoW.output, hoW.size, hoW.old, by simp, by simp, by simp⟩ (fun b hb => by
        obtain ⟨y, hy, hyb⟩ := List.mem_filterMap.1 hb
        exact hoW.place y hy b hyb) (by simp)
      simpa using this
    rw [hJ] at hL
    obtain ⟨L0, hI, rfl⟩ := hL
    have hl : w1.heap[D + 1]? = some (.loop (rec .ready none)) := ho1.holds _ List.mem_cons_self
    refine ⟨_, _, _, _, run_yield hl (by rw [hrec]; rfl), ?_⟩
    refine roundIn_of_wpIn trivial ?_
    rw [fen_inRound]
    have htm : ((#[p].zip ([xs i] : List Value).toArray).foldl (fun tmps (t, a) => tmps.setIfInBounds t a) a.tmps) = a.tmps.setIfInBounds p (xs i) := by simp
    have hbeg : ∀ (K' : Act → World → Prop), True := fun _ => trivial
    have key := hasg i (D + 1) w1 ((HL.obj (D + 1) (.loop (rec .ready none)) :: markH D :: L0).filterMap HL.block) (.obj (D + 1) (.loop (rec .ready none)) :: markH D :: L0)
      (fun a₁ w₁ => ∃ w₂, (Instr.beginRound (D + 1)).run P w₁ = .ok () w₂ ∧ body.wpIn (fen (some (D + 1))) 0 P (roundPost P (D + 1) fun en w' => ∃ L', ((en = .returned (.bool true) ∧ J (i + 1) L') ∨ (en = .returned (.bool false) ∧ Jx i L')) ∧ Own w1 ((HL.obj (D + 1) (.loop (rec .ready none)) :: markH D :: L0).filterMap HL.block) w' L') a₁ w₂) (fun _ _ _ => False) ?_
    · have := key { tmps := a.tmps.setIfInBounds p (xs i), defers := [] } w1 (sat_round hs hpn (xs i)) ho1
      rw [hrec] at *
      simpa [htm] using this
    · intro bb a1 w2 hs1 ho2
      have hl2 : w2.heap[D + 1]? = some (.loop (rec .ready none)) := ho2.holds (.obj (D + 1) (.loop (rec .ready none))) (List.mem_append_right _ List.mem_cons_self)
      refine ⟨_, run_beginRound hl2 (by rw [hrec]), ?_⟩
      have ho3 := own_objAt (o' := .loop { rec .ready none with state := .busy }) ho2
      refine wpIn_mono (hbody i hi L0 hI (D + 1) D { rec .ready none with state := .busy } w1 _ bb _ hO9 rfl a1 _ hs1 ho3) ?_
      intro x a2 w4 hx
      have fin : ∀ (jump : Option Code) (L : List HL), Own w1 ((HL.obj (D + 1) (.loop (rec .ready none)) :: markH D :: L0).filterMap HL.block) w4 ([.obj (D + 1) (.loop { rec .ready none with state := .busy }), markH D] ++ L) →
          ∃ v w', (Instr.endRound (D + 1) jump).run P w4 = .ok v w' ∧ v = .bool jump.isNone ∧ Own w1 ((HL.obj (D + 1) (.loop (rec .ready none)) :: markH D :: L0).filterMap HL.block) w' (.obj (D + 1) (.loop (rec (if jump.isNone then .ready else .done) jump)) :: markH D :: L) := fun jump L hoL => by
        have hl4 : w4.heap[D + 1]? = some (.loop { rec .ready none with state := .busy }) := hoL.holds _ List.mem_cons_self
        refine ⟨_, _, run_endRound jump hl4, rfl, ?_⟩
        have := own_obj (o' := .loop { ({ rec .ready none with state := .busy } : Loop) with state := if jump.isNone then .ready else .done, pending := jump }) hoL
        rw [hrec] at this ⊢
        exact this
      cases x with
      | normal =>
        obtain ⟨L, hL, hoL⟩ := hx
        obtain ⟨v, w5, r1, rfl, r2⟩ := fin none L hoL
        exact ⟨_, w5, r1, _, .inl ⟨rfl, by rw [hJ]; exact ⟨L, hL, rfl⟩⟩, r2⟩
      | ret =>
        obtain ⟨L, hL, hoL⟩ := hx
        obtain ⟨v, w5, r1, rfl, r2⟩ := fin (some .ret) L hoL
        exact ⟨_, w5, r1, _, .inr ⟨rfl, by rw [hJx]; exact ⟨_, L, hL, rfl⟩⟩, r2⟩
      | exit c =>
        obtain ⟨L, hL, hoL⟩ := hx
        obtain ⟨v, w5, r1, rfl, r2⟩ := fin (some (.exit c)) L hoL
        exact ⟨_, w5, r1, _, .inr ⟨rfl, by rw [hJx]; exact ⟨_, L, hL, rfl⟩⟩, r2⟩
      | goto t =>
        obtain ⟨L, hL, hoL⟩ := hx
        obtain ⟨v, w5, r1, rfl, r2⟩ := fin (some (.goto t)) L hoL
        exact ⟨_, w5, r1, _, .inr ⟨rfl, by rw [hJx]; exact ⟨_, L, hL, rfl⟩⟩, r2⟩
      | panic c => exact hx.elim
      | outgrown => exact hx.elim
  have hJ0 : J 0 (.obj (D + 1) (.loop (rec .ready none)) :: markH D :: l) := by rw [hJ]; exact ⟨l, h0, rfl⟩
  have hGJ : ∀ i L, J i L → G L := fun i L h => by
    rw [hJ] at h
    obtain ⟨L0, h1, rfl⟩ := h
    exact hG i L0 [_, _] (.inl h1)
  have hsp := hit (D + 1) J Jx hGJ W _ hY hJ0 hoW
  refine ⟨D + 1, [mark D], W, { target := .fn (.func gf) caps.toArray, args := #[.func (.yield (D + 1)) #[] #[]] }, W, gf, (.func (.yield (D + 1)) #[] #[] :: caps).toArray, W, hen, ?_, fun _ _ => trivial, ?_, fun hd => by simp [fen, Fence.wide] at hd, ?_⟩
  · simp only [resolve, Deferred.ofValue, rangeCall, hgv]
    rw [Sem.run_pure]
    simp [Act.eval]
  · simp [invoke, hcall]
  · refine CallsIn.mono (callsIn_fen hsp) ?_
    rintro en W3 ⟨v, L', rfl, hR, hown⟩
    have hown0 : Own w0 S W3 L' := by
      have := Own.called hoW hown (lr := []) ⟨hoW.os, hoW.tape, hoW.output, hoW.size, hoW.old, by simp, by simp, by simp⟩ (fun b hb => ?_) (by simp)
      · simpa using this
      · obtain ⟨y, hy, hyb⟩ := List.mem_filterMap.1 hb
        exact hoW.place y hy b hyb
    have hs3 : Sat (mark D :: dm) n { a with defers := [mark D] ++ a.defers } e := ⟨hs.size, by simp [hs.defers], hs.get⟩
    rcases hR with hR | ⟨i, hi, hR⟩
    · rw [hJ] at hR
      obtain ⟨L0, hI, rfl⟩ := hR
      have hl3 : W3.heap[D + 1]? = some (.loop (rec .ready none)) := hown0.holds _ List.mem_cons_self
      obtain ⟨W4, hW4⟩ : ∃ W4, W3.putObj (D + 1) (.loop { rec .ready none with state := .exhausted }) = W4 := ⟨_, rfl⟩
      have hend : (Instr.endLoop (D + 1)).run P W3 = .ok (rec .ready none).pending W4 := by rw [← hW4]; exact run_endLoop hl3 (by rw [hrec]; simp)
      have hown4 : Own w0 S W4 (.obj (D + 1) (.loop { rec .ready none with state := .exhausted }) :: markH D :: L0) := by rw [← hW4]; exact own_obj hown0
      refine ⟨_, _, hend, ?_⟩
      rw [show (rec .ready none).pending = none by rw [hrec]]
      exact hdone D L0 hI _ _ hs3 hown4.tail
    · rw [hJx] at hR
      obtain ⟨c, L0, hI, rfl⟩ := hR
      have hl3 : W3.heap[D + 1]? = some (.loop (rec .done (some c))) := hown0.holds _ List.mem_cons_self
      obtain ⟨W4, hW4⟩ : ∃ W4, W3.putObj (D + 1) (.loop { rec .done (some c) with state := .exhausted }) = W4 := ⟨_, rfl⟩
      have hend : (Instr.endLoop (D + 1)).run P W3 = .ok (rec .done (some c)).pending W4 := by rw [← hW4]; exact run_endLoop hl3 (by rw [hrec]; simp)
      have hown4 : Own w0 S W4 (.obj (D + 1) (.loop { rec .done (some c) with state := .exhausted }) :: markH D :: L0) := by rw [← hW4]; exact own_obj hown0
      refine ⟨_, _, hend, ?_⟩
      rw [show (rec .done (some c)).pending = some c by rw [hrec]]
      exact hstop D c i L0 hi hI _ _ hs3 hown4.tail
end
end Go.Gv
namespace Go.Gv
open Go.RowKit
/-! ## Strings -/
section
variable {dm : List Deferred} {P : Program} {n : Nat} {e : Env} {w0 : World} {S : List Nat} {l : List HL} {dst : Option Tmp} {ty : TypeId} {pos : String} {aft : Array Edge} {gd : Option (Nat × Bool)} {x y : Operand} {t ty' : TypeId}
theorem rd_indexStr {s : ByteArray} {i : Nat} {b : UInt8} {k : IntKind} (hu : P.underlying t = some .string) (hx : e.ev x = some (.string s)) (hy : e.ev y = some (.int k (i : Int))) (hb : s[i]? = some b) : Rd P dm n e w0 S l ⟨dst, .index t x y, ty, pos, aft, gd⟩ (.int .u8 (b.toNat : Int)) :=
  fun a w hs ho => by
    simp [execOp, hs.ev hx, hs.ev hy, Instr.index, asIntOf, run_underlying hu, hb]
end
end Go.Gv
namespace Go.Gv
open Go.RowKit
/-! ## Maps with string keys -/
structure MS (β : Type) where
  key : ByteArray
  v : β
  born : Nat
def MS.ent {β : Type} (val : β → Value) (x : MS β) : MapEntry := ⟨.string x.key, val x.v, x.born⟩
def sgetM {β : Type} (k : ByteArray) : List (MS β) → Option β
  | [] => none
  | y :: l => if k = y.key then some y.v else sgetM k l
def sidx {β : Type} (k : ByteArray) : List (MS β) → Nat
  | [] => 0
  | y :: l => if k = y.key then 0 else sidx k l + 1
theorem ba_beq (a b : ByteArray) : (a == b) = decide (a = b) := by
  obtain ⟨x⟩ := a
  obtain ⟨y⟩ := b
  have h : ((⟨x⟩ : ByteArray) == ⟨y⟩) = (x == y) := rfl
  rw [h]
  by_cases e : x = y
  · subst e; simp
  · have e2 : ¬ (⟨x⟩ : ByteArray) = ⟨y⟩ := fun h => e (by cases h; rfl)
    rw [decide_eq_false e2]
    exact beq_eq_false_iff_ne.2 e
theorem findNow_s {β : Type} (val : β → Value) (k : ByteArray) : ∀ (m : List (MS β)) (i : Nat), Instr.findNow .string (.string k) (m.map (MS.ent val)) i = some ((sgetM k m).map fun v => (i + sidx k m, val v))
  | [], i => rfl
  | y :: l, i => by
    have ih := findNow_s val k l (i + 1)
    obtain ⟨yk, yv, yb⟩ := y
    by_cases e : k = yk
    · subst e
      simp [MS.ent, sgetM, sidx, Instr.findNow, Instr.sameNow, ba_beq]
    · simp only [List.map_cons, MS.ent, sgetM, sidx, Instr.findNow, Instr.sameNow, e, if_false, ba_beq, decide_false] at ih ⊢
      rw [ih]
      rw [show i + 1 + sidx k l = i + (sidx k l + 1) by omega]
theorem run_findKeyS {P : Program} {β : Type} (val : β → Value) {kt : TypeId} (hk : P.underlying kt = some .string) (k : ByteArray) (m : List (MS β)) (w : World) : (Instr.findKey kt (.string k) (m.map (MS.ent val))).run P w = .ok ((sgetM k m).map fun v => (sidx k m, val v)) w := by
  have := findNow_s val k m 0
  rw [Nat.zero_add] at this
  simp [Instr.findKey, run_underlying hk, this]
end Go.Gv
namespace Go.Gv
open Go.RowKit
def mapS {β : Type} (val : β → Value) (m : List (MS β)) (nb : Nat) : Obj := .map (m.map (MS.ent val)).toArray nb
section
variable {dm : List Deferred} {P : Program} {n : Nat} {Q : Exit → Act → World → Prop} {K : Act → World → Prop} {e : Env} {w0 : World} {S : List Nat} {l : List HL} {d : Nat} {dst : Option Nat} {ty : TypeId} {pos : String} {aft : Array Edge} {gd : Option (Nat × Bool)}
theorem run_checkKeySN {kt : TypeId} (hk : P.underlying kt = some .string) (k : ByteArray) (b : Bool) (w : World) (N : Nat) : (Instr.checkKey b (N + 1) kt (.string k)).run P w = .ok () w := by
  unfold Instr.checkKey
  simp only [Sem.run_bind, run_underlying hk, Result.andThen_ok]
  rfl
theorem run_checkKeyS {kt : TypeId} (hk : P.underlying kt = some .string) (k : ByteArray) (b : Bool) (w : World) : (Instr.checkKey b 10000 kt (.string k)).run P w = .ok () w := run_checkKeySN hk k b w 9999
/-- a key that is not there is put -/
theorem op_mapPutS (i : Nat) {β : Type} (val : β → Value) {t kt et : TypeId} {x y z : Operand} {b nb : Nat} {m : List (MS β)} {kk : ByteArray} {v : β} (hu : P.underlying t = some (.map kt et)) (hk : P.underlying kt = some .string) (hx : e.ev x = some (.map (some b))) (hy : e.ev y = some (.string kk)) (hz : e.ev z = some (val v))
    (hi : l[i]? = some (.obj b (mapS val m nb))) (hno : sgetM kk m = none) {l' : List HL} (hl' : l.set i (.obj b (mapS val (m ++ [⟨kk, v, nb⟩]) (nb + 1))) = l') (k : GK dm n K e w0 S l') :
    GK dm n (fun a w => Oper.wp P ⟨none, .mapUpdate t x y z, ty, pos, aft, gd⟩ a w K Q) e w0 S l := fun a w hs ho => by
  subst hl'
  have hb : w.heap[b]? = some (mapS val m nb) := ho.holds _ (List.mem_of_getElem? hi)
  have hlt := lt_size hb
  have hb2 : w.heap[b]? = some (.map (m.map (MS.ent val)).toArray nb) := hb
  have h1 := MapKept.run_getObj_map (P := P) hb2
  have hj := run_findKeyS (P := P) val hk kk m w
  rw [hno] at hj
  simp only [Option.map_none] at hj
  have h2 := MapKept.run_setObj_map (P := P) (mapS val (m ++ [⟨kk, v, nb⟩]) (nb + 1)) hb2
  have hr2 : (execOp a.eval ⟨none, .mapUpdate t x y z, ty, pos, aft, gd⟩).run P w = .ok .skip { w with heap := w.heap.setIfInBounds b (mapS val (m ++ [⟨kk, v, nb⟩]) (nb + 1)) } := by
    have e2 : (m ++ [(⟨kk, v, nb⟩ : MS β)]).map (MS.ent val) = m.map (MS.ent val) ++ [{ key := .string kk, val := val v, born := nb }] := by simp [MS.ent]
    unfold mapS at h2 ⊢
    rw [e2] at h2 ⊢
    simp [execOp, hs.ev hx, hs.ev hy, hs.ev hz, Instr.mapUpdate, run_underlying hu, h1, run_checkKeyS hk, hj]
    simp [h2]
  refine wp_skip' rfl hr2 (k _ _ hs ?_)
  refine ho.turn hi rfl rfl rfl (by simp) (fun b' hb' hne => ?_) ?_ (fun b' hb' => .inl hb')
  · simp only [HL.block, ne_eq, Option.some.injEq] at hne
    simp [Array.getElem?_setIfInBounds, hne]
  · simp [HL.holds, hlt]
end
end Go.Gv
namespace Go.Gv
open Go.RowKit
/-! ## Strings that are equal; names seen -/
theorem ba_toList_inj {a b : ByteArray} (h : a.toList = b.toList) : a = b := by
  rw [ByteArray.toList_eq, ByteArray.toList_eq] at h
  obtain ⟨x⟩ := a
  obtain ⟨y⟩ := b
  have : x = y := Array.toList_inj.1 h
  rw [this]
theorem ba_list_beq (a b : ByteArray) : (a.toList == b.toList) = decide (a = b) := by
  by_cases e : a = b
  · subst e; simp
  · have : ¬ a.toList = b.toList := fun h => e (ba_toList_inj h)
    simp [e, this]
section
variable {dm : List Deferred} {P : Program} {n : Nat} {e : Env} {w0 : World} {S : List Nat} {l : List HL} {dst : Option Tmp} {ty : TypeId} {pos : String} {aft : Array Edge} {gd : Option (Nat × Bool)} {x y : Operand} {t ty' : TypeId}
theorem rd_eqlStrD {a b : ByteArray} (hu : P.underlying t = some .string) (hgt : P.eqGuardType P.depth t = false) (hx : e.ev x = some (.string a)) (hy : e.ev y = some (.string b)) : Rd P dm n e w0 S l ⟨dst, .binOp .eql t x y ty', ty, pos, aft, gd⟩ (.bool (decide (a = b))) := by
  have := rd_eqlStr (dm := dm) (n := n) (w0 := w0) (S := S) (l := l) (dst := dst) (ty := ty) (pos := pos) (aft := aft) (gd := gd) (ty' := ty') hu hgt hx hy
  rwa [ba_list_beq] at this
end
def memB (k : ByteArray) (ks : List ByteArray) : Bool := ks.any fun x => decide (k = x)
theorem memB_iff {k : ByteArray} {ks : List ByteArray} : memB k ks = true ↔ k ∈ ks := by
  unfold memB
  rw [List.any_eq_true]
  exact ⟨fun ⟨x, hx, h⟩ => by rw [of_decide_eq_true h]; exact hx, fun h => ⟨k, h, decide_eq_true rfl⟩⟩
theorem memB_cons (k a : ByteArray) (ks : List ByteArray) : memB k (a :: ks) = (decide (k = a) || memB k ks) := rfl
section
variable {dm : List Deferred} {P : Program} {n : Nat} {Q : Exit → Act → World → Prop} {K : Act → World → Prop} {e : Env} {w0 : World} {S : List Nat} {l : List HL} {d : Nat} {dst : Option Nat} {ty : TypeId} {pos : String} {aft : Array Edge} {gd : Option (Nat × Bool)}
end
end Go.Gv
namespace Go.Gv
open Go.RowKit
/-! ## Structs of two numbers: equality, maps that have them as keys -/
abbrev kv2 (a b : Int) : Value := .agg #[.int .i64 a, .int .i64 b]
structure I2 (P : Program) (t : TypeId) (f g : Field) (k k' : IntKind) : Prop where
  u : P.underlying t = some (.struct #[f, g])
  h : P.stoodInHeld t = false
  fn : (f.name == "_") = false
  gn : (g.name == "_") = false
  fo : f.offset = 0
  go : g.offset = 1
  fu : P.underlying f.type = some (.int k)
  gu : P.underlying g.type = some (.int k')
section
variable {P : Program} {t : TypeId} {f g : Field} {k k' : IntKind}
theorem I2.fields (h : I2 P t f g k k') : P.fieldsOf t = #[f, g] := by unfold Program.fieldsOf; rw [h.u]
structure MP (β : Type) where
  a : Int
  b : Int
  v : β
  born : Nat
def MP.ent {β : Type} (val : β → Value) (x : MP β) : MapEntry := ⟨kv2 x.a x.b, val x.v, x.born⟩
end
section
variable {dm : List Deferred} {P : Program} {n : Nat} {Q : Exit → Act → World → Prop} {K : Act → World → Prop} {e : Env} {w0 : World} {S : List Nat} {l : List HL} {d : Nat} {dst : Option Nat} {ty : TypeId} {pos : String} {aft : Array Edge} {gd : Option (Nat × Bool)} {f g : Field} {q q' : IntKind}
end
end Go.Gv
namespace Go.Gv
open Go.RowKit
section
variable {dm : List Deferred} {P : Program} {n : Nat} {e : Env} {w0 : World} {S : List Nat} {l : List HL} {dst : Option Tmp} {ty : TypeId} {pos : String} {aft : Array Edge} {gd : Option (Nat × Bool)} {x y : Operand} {t ty' : TypeId}
theorem ld_mem {b off : Nat} {cs : List Value} {ty : TypeId} {v : Value} (hm : HL.blk b cs ty ∈ l) (hv : cs[off]? = some v) : ∀ w, Own w0 S w l → w.cell? ⟨b, off, none⟩ = some v := fun w ho => by
  obtain ⟨i, hi⟩ := List.getElem?_of_mem hm
  exact ld_blk i hi hv w ho
theorem cs_mem {b : Nat} {cs : List Value} {ty : TypeId} (hm : HL.blk b cs ty ∈ l) : ∀ w, Own w0 S w l → Cells w ⟨b, 0, none⟩ cs := fun w ho => by
  obtain ⟨i, hi⟩ := List.getElem?_of_mem hm
  exact ho.blkCells i hi
end
section
variable {P : Program} {fn : Func} {w0 : World} {S : List Nat}
theorem gx_retM0 {n : Nat} {e : Env} {l l' : List HL} {R : Value → List HL → Prop} {x : Exit} (Ds : List Nat) (hx : x = .ret ∨ x = .normal) (hr : fn.results = #[]) (hs : Sub (Ds.map markH ++ l') l) (h : R (.tuple #[]) l') : GK (Ds.map mark) n (bodyPostM (fen none) 0 P fn (RetR w0 S R) x) e w0 S l :=
  gx_retM Ds hx (fun a w hsat => results_none hr a.tmps P w) hs h
end
end Go.Gv
namespace Go.Gv
open Go.RowKit
theorem add_off (b off k : Nat) : (⟨b, off, none⟩ : Addr).add k = ⟨b, off + k, none⟩ := by
  unfold Addr.add
  split
  · rename_i h; subst h; rfl
  · rfl
section
variable {dm : List Deferred} {P : Program} {n d : Nat} {o : Option Nat} {Q : Exit → Act → World → Prop} {ops : Array Oper} {e : Env} {w0 : World} {S : List Nat} {l : List HL} {dst : Option Tmp} {ty : TypeId} {pos : String} {aft : Array Edge} {rest : List Oper}
theorem rl_opI {op : Op} (h : GK dm n (fun a w => Oper.wpIn (fen o) 0 P ⟨dst, op, ty, pos, aft, none⟩ a w (wpListIn (fen o) 0 P ops Q rest) Q) e w0 S l) : GK dm n (wpListIn (fen o) 0 P ops Q (⟨dst, op, ty, pos, aft, none⟩ :: rest)) e w0 S l :=
  fun a w hs ho => by
    unfold wpListIn
    rw [if_pos (by simp [Region.wanted])]
    exact h a w hs ho
theorem rd_indexArrN {t E : TypeId} {z : Value} {bytes N : Nat} {x y : Operand} {b off i : Nat} {k : IntKind} {gd : Option (Nat × Bool)} (hu : P.underlying t = some (.array N E)) (ht : TyF P E z 1 bytes) (hx : e.ev x = some (.pointer (some ⟨b, off, none⟩))) (hy : e.ev y = some (.int k (i : Int))) (h1 : i < N) :
    Rd P dm n e w0 S l ⟨dst, .indexAddr t x y, ty, pos, aft, gd⟩ (.pointer (some ⟨b, off + i, none⟩)) := by
  have := rd_indexArr (dm := dm) (n := n) (w0 := w0) (S := S) (l := l) (dst := dst) (ty := ty) (pos := pos) (aft := aft) (gd := gd) hu ht hx hy (by omega) (by omega)
  rwa [Int.toNat_natCast, add_off] at this
/-- a block that is old is none of those that are owned -/
theorem old_out {w0 w : World} {S : List Nat} {L : List HL} (ho : Own w0 S w L) {b : Nat} (hb : b < w0.heap.size) (hS : b ∉ S) : b ∉ L.filterMap HL.block := fun hm => by
  obtain ⟨y, hy, hyb⟩ := List.mem_filterMap.1 hm
  rcases ho.place y hy b hyb with h | h
  · exact hS h
  · omega
end
end Go.Gv
namespace Go.Gv
open Go.RowKit
section
variable {P : Program} {n : Nat} {e : Env} {w1 : World} {S1 : List Nat} {l hd : List HL} {I : Nat → List HL → Prop} {Ix : Code → Nat → List HL → Prop} {i : Nat}
theorem rp_normal (L : List HL) (h : I (i + 1) L) (hs : Sub (hd ++ L) l) : GK [] n (RPost w1 S1 hd I Ix i .normal) e w1 S1 l := fun a w hsat ho => ⟨L, h, ho.sub hs⟩
theorem rp_exit {c : Nat} (L : List HL) (h : Ix (.exit c) i L) (hs : Sub (hd ++ L) l) : GK [] n (RPost w1 S1 hd I Ix i (.exit c)) e w1 S1 l := fun a w hsat ho => ⟨L, h, ho.sub hs⟩
end
end Go.Gv
namespace Go.Gv
open Go.RowKit
theorem OldSl.sub {w : World} {S S' : List Nat} {a : Option Addr} {m size : Nat} {cells : List Value} (h : OldSl w S a m size cells) (hs : ∀ b ∈ S', b ∈ S) : OldSl w S' a m size cells := ⟨h.len, h.isSome, h.cells, fun hm hb => h.out hm (hs _ hb)⟩
section
variable {dm : List Deferred} {P : Program} {n : Nat} {Q : Exit → Act → World → Prop} {K : Act → World → Prop} {e : Env} {w0 : World} {S : List Nat} {l : List HL} {d : Nat} {ty : TypeId} {pos : String} {aft : Array Edge} {gd : Option (Nat × Bool)}
end
section
variable {dm : List Deferred} {P : Program} {n : Nat} {e : Env} {w0 : World} {S : List Nat} {l : List HL} {dst : Option Tmp} {ty : TypeId} {pos : String} {aft : Array Edge} {gd : Option (Nat × Bool)}
theorem rd_indexMem {t E E' : TypeId} {z : Value} {size bytes sz : Nat} {x y : Operand} {r : Option Nat} {m cap : Nat} {xs : List Value} {k : IntKind} {i : Int} (hm : HL.row E' sz r m cap xs ∈ l) (hu : P.underlying t = some (.slice E)) (ht : TyF P E z size bytes) (hx : e.ev x = some (.slice (rowA r) m cap)) (hy : e.ev y = some (.int k i)) (h0 : 0 ≤ i) (h1 : i < m) :
    Rd P dm n e w0 S l ⟨dst, .indexAddr t x y, ty, pos, aft, gd⟩ (.pointer (some ⟨r.getD 0, i.toNat * size, none⟩)) := by
  obtain ⟨j, hj⟩ := List.getElem?_of_mem hm
  exact rd_indexRow j hj hu ht hx hy h0 h1
theorem ld_memRow {E : TypeId} {sz : Nat} {r : Option Nat} {m cap : Nat} {xs : List Value} {off : Nat} {v : Value} (hm : HL.row E sz r m cap xs ∈ l) (hv : xs[off]? = some v) : ∀ w, Own w0 S w l → w.cell? ⟨r.getD 0, off, none⟩ = some v := fun w ho => by
  obtain ⟨j, hj⟩ := List.getElem?_of_mem hm
  exact ld_row j hj hv w ho
end
end Go.Gv
namespace Go.Gv
open Go.RowKit
section
variable {dm : List Deferred} {P : Program} {n : Nat} {Q : Exit → Act → World → Prop} {K : Act → World → Prop} {e : Env} {w0 : World} {S : List Nat} {l : List HL} {d : Nat} {dst : Option Tmp} {ty : TypeId} {pos : String} {aft : Array Edge} {gd : Option (Nat × Bool)}
end
end Go.Gv
namespace Go.Gv
open Go.RowKit
/-! ## A scope inside a round -/
section
variable {F : Fence} {P : Program} {b : Frame} {a : Act} {k : List Item} {cs : List Frame} {w : World} {Q : Exit → Act → World → Prop} {n : Nat}
end
/-! ## A drawn region inside a round -/
def ndB (o : Oper) : Bool := match o.op with
  | .defer _ => false
  | _ => true
theorem nd_of {o : Oper} (h : ndB o = true) : ∀ c, o.op ≠ .defer c := fun c e => by unfold ndB at h; rw [e] at h; cases h
section
variable {P : Program} {md : Region.Mode} {ops : Array Oper} {QN : Act → World → Prop} {o : Option Nat}
theorem wpOpIn_of {K K' : Act → World → Prop} (hnd : ∀ (i : Nat) (x : Oper), ops[i]? = some x → ndB x = true) (hK : ∀ a w, K a w → K' a w) {i : Nat} {a : Act} {w : World} (h : wpOp P ops (onlyN QN) i K a w) : wpOpIn (fen o) 0 P ops (onlyN QN) i K' a w := by
  unfold wpOp at h
  unfold wpOpIn
  cases hi : ops[i]? with
  | none => rw [hi] at h; exact hK _ _ h
  | some x =>
    rw [hi] at h
    simp only at h ⊢
    split at h
    · rename_i hw
      rw [if_pos hw]
      rcases h with h | ⟨_, a', w', h⟩
      · exact op_in (nd_of (hnd i x hi)) (Oper.wp_mono hK h)
      · exact h.elim
    · rename_i hw
      rw [if_neg hw]
      exact ⟨fun _ _ => trivial, hK _ _ h⟩
theorem wpAnyIn_of (hnd : ∀ (i : Nat) (x : Oper), ops[i]? = some x → ndB x = true) : ∀ (f : Nat) (listed : Array Bool) (a : Act) (w : World), wpAny P md ops (onlyN QN) f listed a w → wpAnyIn (fen o) 0 P md ops (onlyN QN) f listed a w
  | 0, _, _, _, h => h
  | f + 1, listed, a, w, h => ⟨h.1, fun i hi => wpOpIn_of hnd (wpAnyIn_of hnd f _) (h.2 i hi)⟩
theorem wpR_region_E {I : World → Prop} {z : Bool} {h0 : Nat} {id : Nat} {Q : Exit → Act → World → Prop} {a : Act} {w : World} (hm : P.follows .mixedOrders = true) (hnd : ops.toList.all ndB = true)
    (h : wpAnyE P .any ops I z h0 (onlyN (fun a w => Q .normal a w)) ops.size (Array.replicate ops.size false) a { w with drawn := w.drawn + 1 }) : (Code.region id ops true).wpIn (fen o) 0 P Q a w := by
  have hnd' : ∀ (i : Nat) (x : Oper), ops[i]? = some x → ndB x = true := fun i x hi => List.all_eq_true.1 hnd x (by
    rw [← Array.getElem?_toList] at hi
    exact List.mem_of_getElem? hi)
  refine wpIn_mono (Q := onlyN fun a w => Q .normal a w) (wpIn_region_any hm (wpAnyIn_of hnd' _ _ _ _ (wpAny_of_E _ _ _ _ h))) fun x a w hq => ?_
  cases x with
  | normal => exact hq
  | _ => exact hq.elim
end
section
variable {dm : List Deferred} {P : Program} {n : Nat} {o : Option Nat} {Q : Exit → Act → World → Prop} {e : Env} {w0 : World} {S : List Nat} {l : List HL}
theorem rc_drawP {id : Nat} {ops : List Oper} (idx : List Nat) (z : Bool) (h0 : Nat) (hm : P.follows .mixedOrders = true) (hnd : ops.all ndB = true) (h : GK dm n (wpAnyE P .any ops.toArray (IO w0 S (pick idx l)) z h0 (onlyN (Q .normal)) ops.length (Array.replicate ops.length false)) e w0 S l) :
    GK dm n (wpR o P (Code.region id ops.toArray true) Q) e w0 S l := fun a w hs ho =>
  wpR_region_E hm (by exact hnd) (I := IO w0 S (pick idx l)) (z := z) (h0 := h0) (by simpa using h a _ hs ho.drew)
theorem gx_cutM {ι : Type} {p : ι → Prop} {D : ι → List Deferred} {E : ι → Env} {L : ι → List HL} (j : ι) (hp : p j) (hD : D j = dm) (he : Env.le (E j) e) (hl : Sub (L j) l) :
    GK dm n (fun a w => ∃ j, p j ∧ Sat (D j) n a (E j) ∧ Own w0 S w (L j)) e w0 S l := fun a w hs ho => ⟨j, hp, hD ▸ hs.le he, ho.sub hl⟩
variable {K : Act → World → Prop}
theorem gk_front (B B' T : List HL) (ic : List Nat) (i m : Nat) (hB : pick ic B = B') {x : HL} (hm : B.length = m) (hx : B[i]? = some x) (hno : (ic ++ [i]).Nodup) (hlt : ∀ j ∈ ic ++ [i], j < m) (h : GK dm n K e w0 S (B' ++ (x :: T))) : GK dm n K e w0 S (B ++ T) := by
  subst hB
  have hp : pick (ic ++ [i]) B = pick ic B ++ [x] := by unfold pick; rw [List.filterMap_append]; simp [hx]
  have h2 : Sub (pick ic B ++ (x :: T)) (B ++ T) := by
    have h3 := sub_tail (A := pick (ic ++ [i]) B) (B := B) (T := T) (ic ++ [i]) m hno hlt hm rfl
    rw [hp, List.append_assoc] at h3
    exact h3
  exact gk_sub h2 h
end
end Go.Gv
namespace Go.Gv
open Go.RowKit
end Go.Gv
namespace Go.Gv
open Go.RowKit
section
variable {dm : List Deferred} {P : Program} {n d : Nat} {Q : Exit → Act → World → Prop} {K : Act → World → Prop} {e : Env} {w0 : World} {S : List Nat} {l : List HL} {dst : Option Tmp} {ty : TypeId} {pos : String} {aft : Array Edge} {gd : Option (Nat × Bool)}
/-- append of a slice that can be read now, wherever it lies -/
theorem op_appendMem (i : Nat) {t E : TypeId} {z : Value} {size bytes : Nat} {x y : Operand} {r : Option Nat} {m cap : Nat} {xs : List Value} {a : Option Addr} {mm c : Nat} {news : List Value} (hc : ∀ w, Own w0 S w l → OldSl w [] a mm size news) (hu : P.underlying t = some (.slice E)) (ht : TyF P E z size bytes)
    (hzs : z.cells.size = size) (hsz : 0 < size) (hd : Nat.ble n d = false) (hx : e.ev x = some (.slice (rowA r) m cap)) (hy : e.ev y = some (.slice a mm c)) (hi : l[i]? = some (.row E size r m cap xs))
    (h1 : ∀ u ∈ news, u.oneCell' = true) (hb : (m + mm) * bytes ≤ 140737488355328) (h63 : m + mm ≤ 9223372036854775807) {lf : HL → List HL} (hl' : ∀ y, l.set i y = lf y)
    (k : ∀ r' cap', GK dm n K ((d, .slice (rowA r') (m + mm) cap') :: e) w0 S (lf (.row E size r' (m + mm) cap' (xs ++ news)))) :
    GK dm n (fun a w => Oper.wp P ⟨some d, .call { callee := .builtin .append, args := #[x, y], argTypes := #[t, t] }, ty, pos, aft, gd⟩ a w K Q) e w0 S l := by
  intro ac w hs ho
  have hsl := hc w ho
  cases a with
  | some ad => exact op_append i hu ht hzs hsz hd hx hy hi hsl.len (fun w ho => (hc w ho).cells) h1 hb h63 hl' k ac w hs ho
  | none =>
    have hmm : mm = 0 := by
      rcases Nat.eq_zero_or_pos mm with h | h
      · exact h
      · have := hsl.isSome h; cases this
    subst hmm
    have hnews : news = [] := List.eq_nil_of_length_eq_zero (by simpa using hsl.len)
    subst hnews
    exact op_appendSl i (oldNil w0 S size) hu ht hzs hsz hd hx hy hi h1 hb h63 hl' k ac w hs ho
end
end Go.Gv
namespace Go.Gv
theorem Own.nilRow {w0 w : World} {S : List Nat} {l : List HL} (ho : Own w0 S w l) (t : TypeId) (size : Nat) : Own w0 S w (.row t size none 0 0 [] :: l) :=
  ⟨ho.os, ho.tape, ho.output, ho.size, ho.old,
    fun x hx => by rcases List.mem_cons.1 hx with rfl | hx; exact ⟨by simp, rfl, rfl⟩; exact ho.holds x hx,
    fun x hx b hb => by rcases List.mem_cons.1 hx with rfl | hx; cases hb; exact ho.place x hx b hb,
    by have := ho.nodup; simp only [List.filterMap_cons, HL.block]; exact this⟩
/-- a result may be said with nil rows in front -/
theorem Sp.nils {P : Program} {f : FuncId} {args : List Value} {w0 : World} {S : List Nat} {R R' : Value → List HL → Prop} (h : Sp P f args w0 S R) (hr : ∀ v l, R v l → R' v l ∨ ∃ t sz, R' v (.row t sz none 0 0 [] :: l)) : Sp P f args w0 S R' := by
  unfold Sp at h ⊢
  refine Calls.mono h fun e w' ⟨v, l, h1, h2, h3⟩ => ?_
  rcases hr v l h2 with h4 | ⟨t, sz, h4⟩
  · exact ⟨v, l, h1, h4, h3⟩
  · exact ⟨v, _, h1, h4, h3.nilRow t sz⟩
end Go.Gv
namespace Go.Gv
section
variable {dm : List Deferred} {P : Program} {n : Nat} {Q : Exit → Act → World → Prop} {e : Env} {w0 : World} {S : List Nat} {l : List HL}
/-- a piece of code closed off, with what it does not turn -/
theorem gc_cutF {c : Code} {K : Act → World → Prop} {ι : Type} (F : Env) (Lk : List HL) (p : ι → Prop) (E : ι → Env → Env) (L : ι → List HL → List HL) (he : Env.le F e) (hl : Sub Lk l)
    (h1 : GK dm n (c.wp P (Exit.then (fun a w => ∃ j, p j ∧ Sat dm n a (E j F) ∧ Own w0 S w (L j Lk)) Q)) e w0 S l) (h2 : ∀ j, p j → GK dm n K (E j F) w0 S (L j Lk)) :
    GK dm n (c.wp P (Exit.then K Q)) e w0 S l := gc_cut p (fun j => E j F) (fun j => L j Lk) h1 h2
end
end Go.Gv
namespace Go.Gv
open Go.RowKit
/-! ## A struct of a struct of two numbers and a number: equality -/
structure D3 (P : Program) (t : TypeId) (f g f1 f2 : Field) (k k' k2 : IntKind) : Prop where
  u : P.underlying t = some (.struct #[f, g])
  h : P.stoodInHeld t = false
  fn : (f.name == "_") = false
  gn : (g.name == "_") = false
  fo : f.offset = 0
  go : g.offset = 2
  fi : I2 P f.type f1 f2 k k'
  fs : P.cellsOf f.type = 2
  gu : P.underlying g.type = some (.int k2)
section
variable {P : Program} {t : TypeId} {f g f1 f2 : Field} {k k' k2 : IntKind}
theorem D3.fields (h : D3 P t f g f1 f2 k k' k2) : P.fieldsOf t = #[f, g] := by unfold Program.fieldsOf; rw [h.u]
end
section
variable {dm : List Deferred} {P : Program} {n : Nat} {e : Env} {w0 : World} {S : List Nat} {l : List HL} {dst : Option Nat} {ty : TypeId} {pos : String} {aft : Array Edge} {gd : Option (Nat × Bool)} {f g f1 f2 : Field} {q q' q2 : IntKind}
end
end Go.Gv
namespace Go.Gv
open Go.RowKit
/-! ## A set of names: map[string]struct{} -/
def unitV (_ : Unit) : Value := .agg #[]
def namM : List ByteArray → Nat → List (MS Unit)
  | [], _ => []
  | k :: ks, i => ⟨k, (), i⟩ :: namM ks (i + 1)
theorem namM_len : ∀ (ks : List ByteArray) (i : Nat), (namM ks i).length = ks.length
  | [], _ => rfl
  | a :: ks, i => by simp [namM, namM_len ks]
theorem namM_snoc (k : ByteArray) : ∀ (ks : List ByteArray) (i : Nat), namM (ks ++ [k]) i = namM ks i ++ [⟨k, (), i + ks.length⟩]
  | [], i => by simp [namM]
  | a :: ks, i => by simp only [List.cons_append, namM, namM_snoc k ks (i + 1), List.length_cons]; rw [show i + 1 + ks.length = i + (ks.length + 1) by omega]
theorem namM_get (k : ByteArray) : ∀ (ks : List ByteArray) (i : Nat), sgetM k (namM ks i) = if memB k ks = true then some () else none
  | [], i => by simp [namM, sgetM, memB]
  | a :: ks, i => by
    simp only [namM, sgetM, namM_get k ks (i + 1), memB_cons]
    by_cases e : k = a
    · simp [e]
    · simp [e]
def namO (ks : List ByteArray) : Obj := mapS unitV (namM ks 0) ks.length
theorem namO_snoc (ks : List ByteArray) (k : ByteArray) : mapS unitV (namM ks 0 ++ [⟨k, (), ks.length⟩]) (ks.length + 1) = namO (ks ++ [k]) := by
  unfold namO
  rw [namM_snoc, Nat.zero_add, List.length_append]; rfl
def putN (ks : List ByteArray) (k : ByteArray) : List ByteArray := if memB k ks then ks else ks ++ [k]
theorem sameBits_str (N : Nat) (k : ByteArray) : Instr.sameBits N (.string k) (.string k) = true := by
  cases N <;> simp [Instr.sameBits, ba_beq]
theorem keyStays_str {P : Program} (k : ByteArray) (w : World) : (Instr.keyThatStays (.string k) (.string k)).run P w = .ok (.string k) w := by
  unfold Instr.keyThatStays
  rw [sameBits_str]
  rfl
theorem modify_same {β : Type} (val : β → Value) (k : ByteArray) (v : β) : ∀ m : List (MS β), sgetM k m = some v → (m.map (MS.ent val)).modify (sidx k m) (fun e => { e with key := .string k, val := val v }) = m.map (MS.ent val)
  | [], h => by simp [sgetM] at h
  | y :: m, h => by
    obtain ⟨yk, yv, yb⟩ := y
    by_cases e : k = yk
    · subst e
      simp only [sgetM, if_true, Option.some.injEq] at h
      subst h
      simp [sidx, MS.ent]
    · simp only [sgetM, e, if_false] at h
      have := modify_same val k v m h
      simp only [List.map_cons, sidx, e, if_false, List.modify_succ_cons, this]
theorem get_same {β : Type} (val : β → Value) (k : ByteArray) (v : β) : ∀ m : List (MS β), sgetM k m = some v → ((m.map (MS.ent val))[sidx k m]?).map (·.key) = some (.string k)
  | [], h => by simp [sgetM] at h
  | y :: m, h => by
    obtain ⟨yk, yv, yb⟩ := y
    by_cases e : k = yk
    · subst e; simp [sidx, MS.ent]
    · simp only [sgetM, e, if_false] at h
      have := get_same val k v m h
      simp only [List.map_cons, sidx, e, if_false, List.getElem?_cons_succ, this]
section
variable {dm : List Deferred} {P : Program} {n : Nat} {Q : Exit → Act → World → Prop} {K : Act → World → Prop} {e : Env} {w0 : World} {S : List Nat} {l : List HL} {d : Nat} {dst : Option Nat} {ty : TypeId} {pos : String} {aft : Array Edge} {gd : Option (Nat × Bool)}
theorem op_makeNam {t kt et : TypeId} {d : Nat} {x : Operand} {N : Nat} (hu : P.underlying t = some (.map kt et)) (hx : e.ev x = some (natV N)) (hd : Nat.ble n d = false) (k : ∀ b, GK dm n K ((d, .map (some b)) :: e) w0 S (.obj b (namO []) :: l)) :
    GK dm n (fun a w => Oper.wp P ⟨some d, .makeMap t (some x), ty, pos, aft, gd⟩ a w K Q) e w0 S l := fun a w hs ho => by
  have hr : (execOp a.eval ⟨some d, .makeMap t (some x), ty, pos, aft, gd⟩).run P w = .ok (.value (.map (some w.heap.size))) (w.alloc (namO [])) := by
    simp [execOp, hs.ev hx, Instr.makeMap, run_underlying hu, asInt, asIntOf, natV, namO, mapS, namM]
  exact wp_value hr (k _ _ _ (hs.put (blt_lt hd) _) (ho.alloc (.obj w.heap.size (namO [])) _ rfl (heap_alloc_new w _)))
theorem rd_lenNam (j : Nat) {x : Operand} {t kt et : TypeId} {b : Nat} {ks : List ByteArray} (hj : l[j]? = some (.obj b (namO ks))) (hu : P.underlying t = some (.map kt et)) (hx : e.ev x = some (.map (some b))) :
    Rd P dm n e w0 S l ⟨dst, .call { callee := .builtin .len, args := #[x], argTypes := #[t] }, ty, pos, aft, gd⟩ (natV ks.length) :=
  fun a w hs ho => by
    have hb : w.heap[b]? = some (.map ((namM ks 0).map (MS.ent unitV)).toArray ks.length) := ho.holds _ (List.mem_of_getElem? hj)
    have h1 := MapKept.run_getObj_map (P := P) hb
    simp [execOp, resolve, invoke, builtin, hs.ev hx, Builtin.len_, run_underlying hu, h1, goInt, namM_len]
theorem op_putNam (i : Nat) {t kt et : TypeId} {x y z : Operand} {b : Nat} {ks : List ByteArray} {kk : ByteArray} (hu : P.underlying t = some (.map kt et)) (hk : P.underlying kt = some .string) (hx : e.ev x = some (.map (some b))) (hy : e.ev y = some (.string kk)) (hz : e.ev z = some (.agg #[]))
    (hi : l[i]? = some (.obj b (namO ks))) {l' : List HL} (hl' : l.set i (.obj b (namO (putN ks kk))) = l') (k : GK dm n K e w0 S l') :
    GK dm n (fun a w => Oper.wp P ⟨none, .mapUpdate t x y z, ty, pos, aft, gd⟩ a w K Q) e w0 S l := by
  cases hm : memB kk ks with
  | false =>
    refine op_mapPutS i unitV (m := namM ks 0) (nb := ks.length) (v := ()) hu hk hx hy hz hi (by rw [namM_get, if_neg (by rw [hm]; decide)]) ?_ k
    rw [namO_snoc]
    unfold putN at hl'
    rw [hm] at hl'
    exact hl'
  | true =>
    have e0 : putN ks kk = ks := by unfold putN; rw [hm]; rfl
    rw [e0] at hl'
    have hsame : l.set i (.obj b (namO ks)) = l := by
      apply List.ext_getElem?
      intro j
      rw [List.getElem?_set]
      split
      · rename_i e; subst e; rw [hi]; simp [(List.getElem?_eq_some_iff.1 hi).1]
      · rfl
    rw [hsame] at hl'
    subst hl'
    intro a w hs ho
    have hb : w.heap[b]? = some (mapS unitV (namM ks 0) ks.length) := ho.holds _ (List.mem_of_getElem? hi)
    have hb2 : w.heap[b]? = some (.map ((namM ks 0).map (MS.ent unitV)).toArray ks.length) := hb
    have h1 := MapKept.run_getObj_map (P := P) hb2
    have hg : sgetM kk (namM ks 0) = some () := by rw [namM_get, if_pos hm]
    have hj := run_findKeyS (P := P) unitV hk kk (namM ks 0) w
    rw [hg] at hj
    simp only [Option.map_some] at hj
    have h2 := MapKept.run_setObj_map (P := P) (mapS unitV (namM ks 0) ks.length) hb2
    have hw : w.heap.setIfInBounds b (mapS unitV (namM ks 0) ks.length) = w.heap := by
      apply Array.ext_getElem?
      intro j
      rw [Array.getElem?_setIfInBounds]
      split
      · rename_i e; subst e; rw [if_pos (lt_size hb), hb]
      · rfl
    have h3 := get_same unitV kk () (namM ks 0) hg
    have h4 := modify_same unitV kk () (namM ks 0) hg
    have hr2 : (execOp a.eval ⟨none, .mapUpdate t x y z, ty, pos, aft, gd⟩).run P w = .ok .skip w := by
      have e2 : (((namM ks 0).map (MS.ent unitV)).toArray.modify (sidx kk (namM ks 0)) fun e => { e with key := .string kk, val := unitV () }) = ((namM ks 0).map (MS.ent unitV)).toArray := by
        rw [List.modify_toArray, h4]
      rw [hw] at h2
      unfold mapS at h2
      simp only [execOp, hs.ev hx, hs.ev hy, hs.ev hz]
      simp [Instr.mapUpdate, run_underlying hu, h1, run_checkKeyS hk, hj]
      rw [List.getElem?_map, Option.map_map] at h3
      rw [h3, Option.getD_some, keyStays_str, Result.andThen_ok]
      have h5 : ((namM ks 0).map (MS.ent unitV)).modify (sidx kk (namM ks 0)) (fun e => { key := .string kk, val := Value.agg #[], born := e.born }) = (namM ks 0).map (MS.ent unitV) := h4
      rw [h5, h2]
      rfl
    exact wp_skip' rfl hr2 (k _ _ hs ho)
end
end Go.Gv
namespace Go.Gv
open Go.RowKit
/-! ## The statement 'for y, x := range f { .. }' with two variables, outermost -/
section
variable {dm : List Deferred} {P : Program} {n : Nat} {Q : Exit → Act → World → Prop} {e : Env} {w0 : World} {S : List Nat} {l : List HL}
theorem sat_round2 {a : Act} (hs : Sat dm n a e) {p q : Tmp} (hp : p < n) (hq : q < n) (u v : Value) : Sat [] n { tmps := (a.tmps.setIfInBounds p u).setIfInBounds q v, defers := [] } ((q, v) :: (p, u) :: e) := by
  have h := (hs.put hp u).put hq v
  exact ⟨h.size, rfl, h.get⟩
theorem rc_rangeF2 {β : Type} {g : Operand} {p q : Tmp} {assign body : Code} {gf : FuncId} {caps : List Value} {N : Nat} {xs ys : Nat → Value} (E : Nat → β → Env) (Z : Nat → β → List HL)
    (hg : e.ev g = some (.func (.func gf) #[] caps.toArray)) (hcall : ∀ args w, (callFunc gf args).run P w = .ok (.enter gf args) w) (hp : Nat.ble n p = false) (hq : Nat.ble n q = false)
    (I : Nat → List HL → Prop) (Ix : Code → Nat → List HL → Prop) (G : List HL → Prop) (hG : ∀ i L hd, (I i L ∨ ∃ c, Ix c i L) → G (hd ++ L)) (h0 : I 0 l)
    (hit : ∀ lb (J Jx : Nat → List HL → Prop), (∀ i L, J i L → G L) → ∀ w1 L, YOk P lb N (fun i => [ys i, xs i]) J Jx w1 (L.filterMap HL.block) → J 0 L → Own w0 S w1 L →
      Sp P gf (.func (.yield lb) #[] #[] :: caps) w1 (L.filterMap HL.block) (fun _ L' => J N L' ∨ ∃ i, i < N ∧ Jx i L'))
    (hasg : ∀ i lb w1 S1 L1 (K' : Act → World → Prop) (Q' : Exit → Act → World → Prop), (∀ b, GK [] n K' (E i b ++ e) w1 S1 (Z i b ++ L1)) → GK [] n (wpR (some lb) P assign (Exit.then K' Q')) ((q, xs i) :: (p, ys i) :: e) w1 S1 L1)
    (hbody : ∀ i, i < N → ∀ L, I i L → ∀ lb D rec w1 S1 b rec', Own w0 S w1 (.obj lb rec' :: markH D :: L) → S1 = (HL.obj lb rec' :: markH D :: L).filterMap HL.block → GK [] n (wpR (some lb) P body (RPost w1 S1 [.obj lb (.loop rec), markH D] I Ix i)) (E i b ++ e) w1 S1 (Z i b ++ ([.obj lb (.loop rec), markH D] ++ L)))
    (hdone : ∀ D L, I N L → GK (mark D :: dm) n (Q .normal) e w0 S (markH D :: L))
    (hstop : ∀ D c i L, i < N → Ix c i L → GK (mark D :: dm) n (wpR none P c Q) e w0 S (markH D :: L)) :
    GK dm n (wpR none P (Code.rangeFunc g #[p, q] assign body) Q) e w0 S l := fun a w hs ho => by
  refine wpIn_rangeFunc fun fn _ => ?_
  obtain ⟨rec, hrec⟩ : ∃ rec : LoopState → Option Code → Loop, rec = fun st pe => { state := st, pending := pe, fn, tmps := a.tmps, params := #[p, q], assign, body, defers := w.heap.size } := ⟨_, rfl⟩
  obtain ⟨D, hD⟩ : ∃ D, w.heap.size = D := ⟨_, rfl⟩
  obtain ⟨W, hW⟩ : ∃ W, (w.alloc (.deferred (some []))).alloc (.loop (rec .ready none)) = W := ⟨_, rfl⟩
  have hen : (Instr.enterLoop fn a.tmps #[p, q] assign body (fen none).round).run P w = .ok (D + 1, [mark D]) W := by
    rw [← hW, hrec, ← hD]; exact run_enterLoop_outer _ _ _ _ _
  have hoW : Own w0 S W (.obj (D + 1) (.loop (rec .ready none)) :: markH D :: l) := by
    rw [← hW, ← hD]
    have h1 := ho.alloc (markH w.heap.size) (.deferred (some [])) rfl (heap_alloc_new w _)
    have hsz : (w.alloc (.deferred (some []))).heap.size = w.heap.size + 1 := by simp
    have h2 := h1.alloc (.obj (w.heap.size + 1) (.loop (rec .ready none))) (.loop (rec .ready none)) (by rw [hsz]; rfl) (by rw [← hsz]; exact heap_alloc_new _ _)
    exact h2
  have hgv : a.eval g = .func (.func gf) #[] caps.toArray := hs.ev hg
  obtain ⟨J, hJ⟩ : ∃ J : Nat → List HL → Prop, J = fun i L => ∃ L0, I i L0 ∧ L = .obj (D + 1) (.loop (rec .ready none)) :: markH D :: L0 := ⟨_, rfl⟩
  obtain ⟨Jx, hJx⟩ : ∃ Jx : Nat → List HL → Prop, Jx = fun i L => ∃ c L0, Ix c i L0 ∧ L = .obj (D + 1) (.loop (rec .done (some c))) :: markH D :: L0 := ⟨_, rfl⟩
  have hpn : p < n := blt_lt hp
  have hqn : q < n := blt_lt hq
  have hY : YOk P (D + 1) N (fun i => [ys i, xs i]) J Jx W ((HL.obj (D + 1) (.loop (rec .ready none)) :: markH D :: l).filterMap HL.block) := fun i hi L hL w1 ho9 => by
    have ho1 := ho9.self
    have hO9 : Own w0 S w1 L := by
      have := Own.called hoW ho9 (lr := []) ⟨hoW.os, hoW.tape, hoW.output, hoW.size, hoW.old, by simp, by simp, by simp⟩ (fun b hb => by
        obtain ⟨y, hy, hyb⟩ := List.mem_filterMap.1 hb
        exact hoW.place y hy b hyb) (by simp)
      simpa using this
    rw [hJ] at hL
    obtain ⟨L0, hI, rfl⟩ := hL
    have hl : w1.heap[D + 1]? = some (.loop (rec .ready none)) := ho1.holds _ List.mem_cons_self
    refine ⟨_, _, _, _, run_yield hl (by rw [hrec]; rfl), ?_⟩
    refine roundIn_of_wpIn trivial ?_
    rw [fen_inRound]
    have htm : ((#[p, q].zip ([ys i, xs i] : List Value).toArray).foldl (fun tmps (t, a) => tmps.setIfInBounds t a) a.tmps) = (a.tmps.setIfInBounds p (ys i)).setIfInBounds q (xs i) := by simp
    have hbeg : ∀ (K' : Act → World → Prop), True := fun _ => trivial
    have key := hasg i (D + 1) w1 ((HL.obj (D + 1) (.loop (rec .ready none)) :: markH D :: L0).filterMap HL.block) (.obj (D + 1) (.loop (rec .ready none)) :: markH D :: L0)
      (fun a₁ w₁ => ∃ w₂, (Instr.beginRound (D + 1)).run P w₁ = .ok () w₂ ∧ body.wpIn (fen (some (D + 1))) 0 P (roundPost P (D + 1) fun en w' => ∃ L', ((en = .returned (.bool true) ∧ J (i + 1) L') ∨ (en = .returned (.bool false) ∧ Jx i L')) ∧ Own w1 ((HL.obj (D + 1) (.loop (rec .ready none)) :: markH D :: L0).filterMap HL.block) w' L') a₁ w₂) (fun _ _ _ => False) ?_
    · have := key { tmps := (a.tmps.setIfInBounds p (ys i)).setIfInBounds q (xs i), defers := [] } w1 (sat_round2 hs hpn hqn (ys i) (xs i)) ho1
      rw [hrec] at *
      simpa [htm] using this
    · intro bb a1 w2 hs1 ho2
      have hl2 : w2.heap[D + 1]? = some (.loop (rec .ready none)) := ho2.holds (.obj (D + 1) (.loop (rec .ready none))) (List.mem_append_right _ List.mem_cons_self)
      refine ⟨_, run_beginRound hl2 (by rw [hrec]), ?_⟩
      have ho3 := own_objAt (o' := .loop { rec .ready none with state := .busy }) ho2
      refine wpIn_mono (hbody i hi L0 hI (D + 1) D { rec .ready none with state := .busy } w1 _ bb _ hO9 rfl a1 _ hs1 ho3) ?_
      intro x a2 w4 hx
      have fin : ∀ (jump : Option Code) (L : List HL), Own w1 ((HL.obj (D + 1) (.loop (rec .ready none)) :: markH D :: L0).filterMap HL.block) w4 ([.obj (D + 1) (.loop { rec .ready none with state := .busy }), markH D] ++ L) →
          ∃ v w', (Instr.endRound (D + 1) jump).run P w4 = .ok v w' ∧ v = .bool jump.isNone ∧ Own w1 ((HL.obj (D + 1) (.loop (rec .ready none)) :: markH D :: L0).filterMap HL.block) w' (.obj (D + 1) (.loop (rec (if jump.isNone then .ready else .done) jump)) :: markH D :: L) := fun jump L hoL => by
        have hl4 : w4.heap[D + 1]? = some (.loop { rec .ready none with state := .busy }) := hoL.holds _ List.mem_cons_self
        refine ⟨_, _, run_endRound jump hl4, rfl, ?_⟩
        have := own_obj (o' := .loop { ({ rec .ready none with state := .busy } : Loop) with state := if jump.isNone then .ready else .done, pending := jump }) hoL
        rw [hrec] at this ⊢
        exact this
      cases x with
      | normal =>
        obtain ⟨L, hL, hoL⟩ := hx
        obtain ⟨v, w5, r1, rfl, r2⟩ := fin none L hoL
        exact ⟨_, w5, r1, _, .inl ⟨rfl, by rw [hJ]; exact ⟨L, hL, rfl⟩⟩, r2⟩
      | ret =>
        obtain ⟨L, hL, hoL⟩ := hx
        obtain ⟨v, w5, r1, rfl, r2⟩ := fin (some .ret) L hoL
        exact ⟨_, w5, r1, _, .inr ⟨rfl, by rw [hJx]; exact ⟨_, L, hL, rfl⟩⟩, r2⟩
      | exit c =>
        obtain ⟨L, hL, hoL⟩ := hx
        obtain ⟨v, w5, r1, rfl, r2⟩ := fin (some (.exit c)) L hoL
        exact ⟨_, w5, r1, _, .inr ⟨rfl, by rw [hJx]; exact ⟨_, L, hL, rfl⟩⟩, r2⟩
      | goto t =>
        obtain ⟨L, hL, hoL⟩ := hx
        obtain ⟨v, w5, r1, rfl, r2⟩ := fin (some (.goto t)) L hoL
        exact ⟨_, w5, r1, _, .inr ⟨rfl, by rw [hJx]; exact ⟨_, L, hL, rfl⟩⟩, r2⟩
      | panic c => exact hx.elim
      | outgrown => exact hx.elim
  have hJ0 : J 0 (.obj (D + 1) (.loop (rec .ready none)) :: markH D :: l) := by rw [hJ]; exact ⟨l, h0, rfl⟩
  have hGJ : ∀ i L, J i L → G L := fun i L h => by
    rw [hJ] at h
    obtain ⟨L0, h1, rfl⟩ := h
    exact hG i L0 [_, _] (.inl h1)
  have hsp := hit (D + 1) J Jx hGJ W _ hY hJ0 hoW
  refine ⟨D + 1, [mark D], W, { target := .fn (.func gf) caps.toArray, args := #[.func (.yield (D + 1)) #[] #[]] }, W, gf, (.func (.yield (D + 1)) #[] #[] :: caps).toArray, W, hen, ?_, fun _ _ => trivial, ?_, fun hd => by simp [fen, Fence.wide] at hd, ?_⟩
  · simp only [resolve, Deferred.ofValue, rangeCall, hgv]
    rw [Sem.run_pure]
    simp [Act.eval]
  · simp [invoke, hcall]
  · refine CallsIn.mono (callsIn_fen hsp) ?_
    rintro en W3 ⟨v, L', rfl, hR, hown⟩
    have hown0 : Own w0 S W3 L' := by
      have := Own.called hoW hown (lr := []) ⟨hoW.os, hoW.tape, hoW.output, hoW.size, hoW.old, by simp, by simp, by simp⟩ (fun b hb => ?_) (by simp)
      · simpa using this
      · obtain ⟨y, hy, hyb⟩ := List.mem_filterMap.1 hb
        exact hoW.place y hy b hyb
    have hs3 : Sat (mark D :: dm) n { a with defers := [mark D] ++ a.defers } e := ⟨hs.size, by simp [hs.defers], hs.get⟩
    rcases hR with hR | ⟨i, hi, hR⟩
    · rw [hJ] at hR
      obtain ⟨L0, hI, rfl⟩ := hR
      have hl3 : W3.heap[D + 1]? = some (.loop (rec .ready none)) := hown0.holds _ List.mem_cons_self
      obtain ⟨W4, hW4⟩ : ∃ W4, W3.putObj (D + 1) (.loop { rec .ready none with state := .exhausted }) = W4 := ⟨_, rfl⟩
      have hend : (Instr.endLoop (D + 1)).run P W3 = .ok (rec .ready none).pending W4 := by rw [← hW4]; exact run_endLoop hl3 (by rw [hrec]; simp)
      have hown4 : Own w0 S W4 (.obj (D + 1) (.loop { rec .ready none with state := .exhausted }) :: markH D :: L0) := by rw [← hW4]; exact own_obj hown0
      refine ⟨_, _, hend, ?_⟩
      rw [show (rec .ready none).pending = none by rw [hrec]]
      exact hdone D L0 hI _ _ hs3 hown4.tail
    · rw [hJx] at hR
      obtain ⟨c, L0, hI, rfl⟩ := hR
      have hl3 : W3.heap[D + 1]? = some (.loop (rec .done (some c))) := hown0.holds _ List.mem_cons_self
      obtain ⟨W4, hW4⟩ : ∃ W4, W3.putObj (D + 1) (.loop { rec .done (some c) with state := .exhausted }) = W4 := ⟨_, rfl⟩
      have hend : (Instr.endLoop (D + 1)).run P W3 = .ok (rec .done (some c)).pending W4 := by rw [← hW4]; exact run_endLoop hl3 (by rw [hrec]; simp)
      have hown4 : Own w0 S W4 (.obj (D + 1) (.loop { rec .done (some c) with state := .exhausted }) :: markH D :: L0) := by rw [← hW4]; exact own_obj hown0
      refine ⟨_, _, hend, ?_⟩
      rw [show (rec .done (some c)).pending = some c by rw [hrec]]
      exact hstop D c i L0 hi hI _ _ hs3 hown4.tail
end
end Go.Gv
namespace Go.Gv
open Go.RowKit
/-! ## Three results out of a function with marks -/
theorem gx_retM3 {P : Program} {fn : Func} {n : Nat} {e : Env} {w0 : World} {S : List Nat} {l l' : List HL} {R : Value → List HL → Prop} {t u s : Tmp} {v v2 v3 : Value} {x : Exit} (Ds : List Nat) (hx : x = .ret ∨ x = .normal) (hr : fn.results = #[.tmp t, .tmp u, .tmp s]) (hv : e.get t = some v) (hv2 : e.get u = some v2) (hv3 : e.get s = some v3) (hs : Sub (Ds.map markH ++ l') l) (h : R (.tuple #[v, v2, v3]) l') :
    GK (Ds.map mark) n (bodyPostM (fen none) 0 P fn (RetR w0 S R) x) e w0 S l :=
  gx_retM Ds hx (fun a w hsat => by
    have h1 := results_tmp3 hr a.tmps P w
    simp only [Array.getD_eq_getD_getElem?, hsat.get t v hv, hsat.get u v2 hv2, hsat.get s v3 hv3, Option.getD_some] at h1
    exact h1) hs h
end Go.Gv
namespace Go.Gv
open Go.RowKit
/-! ## What a call that consumes some heaplets may still read (no tail) -/
theorem slOutB {w0 w : World} {S : List Nat} {B : List HL} (ho : Own w0 S w B) {a : Option Addr} {m sz : Nat} {cs : List Value} (h : OldSl w0 S a m sz cs) (hsz : 0 < sz) (ic : List Nat) : OldSl w ((pick ic B).filterMap HL.block) a m sz cs :=
  slOutT (B := B) (T := []) (by rw [List.append_nil]; exact ho) h hsz ic
end Go.Gv
namespace Go.Gv
open Go.RowKit
/-! ## What lies in a tail, read as a slice; a yield under a guard -/
section
variable {dm : List Deferred} {P : Program} {n : Nat} {Q : Exit → Act → World → Prop} {K : Act → World → Prop} {e : Env} {w0 : World} {S : List Nat} {l : List HL} {o : Option Nat} {ops : Array Oper} {rest : List Oper} {dst : Option Tmp} {ty : TypeId} {pos : String} {aft : Array Edge}
theorem slMem {w : World} (ho : Own w0 S w l) {E : TypeId} {sz : Nat} {r : Option Nat} {m cap : Nat} {xs : List Value} (hm : HL.row E sz r m cap xs ∈ l) : OldSl w [] (rowA r) m sz xs := by
  obtain ⟨i, hi⟩ := List.getElem?_of_mem hm
  exact ho.rowSl i hi
theorem blkMem {w : World} (ho : Own w0 S w l) {b : Nat} {cs : List Value} {ty : TypeId} (k : Nat) (hk : cs.length = k) (hm : HL.blk b cs ty ∈ l) : OldSl w [] (some ⟨b, 0, none⟩) 1 k cs :=
  ⟨by rw [hk, Nat.one_mul], fun _ => rfl, cs_mem hm w ho, fun _ => by simp⟩
theorem OldSl.allOut {w : World} {a : Option Addr} {m size : Nat} {cells : List Value} (h : OldSl w0 S a m size cells) (ho : Own w0 S w l) (hs : 0 < size) : OldSl w (l.filterMap HL.block) a m size cells :=
  ⟨h.len, h.isSome, (h.at ho).cells, fun hm => old_out ho (h.lt hm hs) (h.out hm)⟩
theorem rl_yesI {op : Op} {j dj : Nat} {b : Bool} (hj : (ops[j]?).bind (·.dst) = some dj) (hb : e.get dj = some (.bool b))
    (h : GK dm n (fun a w => Oper.wpIn (fen o) 0 P ⟨dst, op, ty, pos, aft, some (j, b)⟩ a w (wpListIn (fen o) 0 P ops Q rest) Q) e w0 S l) : GK dm n (wpListIn (fen o) 0 P ops Q (⟨dst, op, ty, pos, aft, some (j, b)⟩ :: rest)) e w0 S l :=
  fun a w hs ho => by
    have hy := yielded_of hs hj hb
    unfold wpListIn
    rw [if_pos (by simp [Region.wanted, hy])]
    exact h a w hs ho
theorem rd_neqNilSl {t E ty' : TypeId} {x y : Operand} {gd : Option (Nat × Bool)} {a : Option Addr} {m c m2 c2 : Nat} (hgt : P.eqGuardType P.depth t = false) (hu : P.underlying t = some (.slice E)) (hx : e.ev x = some (.slice a m c)) (hy : e.ev y = some (.slice none m2 c2)) : Rd P dm n e w0 S l ⟨dst, .binOp .neq t x y ty', ty, pos, aft, gd⟩ (.bool (!a.isNone)) :=
  fun ac w hs ho => by
    have h := run_equalInSl (P := P) 9999 hu a m c m2 c2 w
    have h2 : (Op.equal t (.slice a m c) (.slice none m2 c2)).run P w = .ok a.isNone w := h
    simp [execOp, hs.ev hx, hs.ev hy, eqGuard, binOp, hgt, h2]
/-- an element of a row that is there, whatever lies in it -/
theorem rd_indexR1 {t E : TypeId} {z : Value} {bytes : Nat} {x y : Operand} {b m cap : Nat} {k : IntKind} {i : Int} {gd : Option (Nat × Bool)} (hu : P.underlying t = some (.slice E)) (ht : TyF P E z 1 bytes) (hx : e.ev x = some (.slice (rowA (some b)) m cap)) (hy : e.ev y = some (.int k i)) (h0 : 0 ≤ i) (h1 : i < m) :
    Rd P dm n e w0 S l ⟨dst, .indexAddr t x y, ty, pos, aft, gd⟩ (.pointer (some ⟨(some b).getD 0, i.toNat, none⟩)) := by
  have h := rd_index1 (dst := dst) (ty := ty) (pos := pos) (aft := aft) (gd := gd) (dm := dm) (n := n) (w0 := w0) (S := S) (l := l) hu ht hx hy h0 h1
  rwa [add_off, Nat.zero_add] at h
theorem rc_drawT {id : Nat} {ops : List Oper} (A T : List HL) (idx : List Nat) (z : Bool) (h0 : Nat) (hl : l = A ++ T) (hm : P.follows .mixedOrders = true) (hnd : ops.all ndB = true) (h : GK dm n (wpAnyE P .any ops.toArray (IO w0 S (pick idx A ++ T)) z h0 (onlyN (Q .normal)) ops.length (Array.replicate ops.length false)) e w0 S (A ++ T)) :
    GK dm n (wpR o P (Code.region id ops.toArray true) Q) e w0 S l := by
  subst hl
  exact fun a w hs ho => wpR_region_E hm (by exact hnd) (I := IO w0 S (pick idx A ++ T)) (z := z) (h0 := h0) (by simpa using h a _ hs ho.drew)
end
end Go.Gv
