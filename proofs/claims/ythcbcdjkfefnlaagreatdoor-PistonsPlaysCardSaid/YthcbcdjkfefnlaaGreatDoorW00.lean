import Derived.WalkKit
import Derived.Still
import Derived.Laws.AppendOwn
import Derived.Laws.BitsLemmas
import Derived.OwnWalk
import Derived.Laws.MakeOwn
import Derived.Laws.Tables
import Derived.Laws.CopyRow
import Derived.MapKept
import Derived.Scope
import Derived.Lib.MakeNoZero
import Derived.Laws.BytesArg
import Derived.Laws.StructEq
import Derived.Lib.SlBytesConst
import Derived.Maps.RangeRun
import Derived.TacticsIn
import Derived.RangeFuncIn
import Derived.RangeFuncRecord
import Derived.RangeFuncLeaves
import Derived.RangeFuncSeq
import Derived.OrdersIn
import Derived.ChangeKeysEq
import Derived.Shelf.Sort.Plain
import Derived.Shelf.Slices.In.SortNone
/- A part of the proof: rules for memory that a call owns. -/
set_option autoImplicit false
set_option linter.unusedSimpArgs false
set_option linter.unusedVariables false
set_option linter.unnecessarySimpa false
set_option maxRecDepth 100000
set_option maxHeartbeats 8000000
namespace Go.Gv
open Go.RowKit
abbrev Env := List (Nat × Value)
def Env.get : Env→Nat→Option Value
  | [],_=>none
  | (j,v)::e,i=>match Nat.beq j i with | true=>some v | false=>Env.get e i
def Env.ev (e:Env):Operand→Option Value
  | .tmp t=>e.get t
  | .const v=>some v
  | .global g=>some (.pointer (some ⟨g,0,none⟩))
  | .func f=>some (.func (.func f) #[] #[])
def Env.evs (e:Env):List Operand→Option (List Value)
  | []=>some []
  | x::xs=>match e.ev x with
    | some v=>match e.evs xs with
      | some vs=>some (v::vs)
      | none=>none
    | none=>none
structure Sat (dm:List Deferred) (n:Nat) (a:Act) (e:Env):Prop where
  size:a.tmps.size=n
  defers:a.defers=dm
  get:∀ i v,e.get i=some v→a.tmps[i]? = some v
theorem Sat.ev {dm:List Deferred} {n:Nat} {a:Act} {e:Env} (h:Sat dm n a e) {x:Operand} {v:Value} (hx:e.ev x=some v):a.eval x=v:=by
 cases x with
 | tmp t=>have:=h.get t v hx; simp [Act.eval,Array.getD_eq_getD_getElem?,this]
 | const u=>simpa [Env.ev,Act.eval] using hx
 | global g=>simpa [Env.ev,Act.eval] using hx
 | func f=>simpa [Env.ev,Act.eval] using hx
theorem Sat.evs {dm:List Deferred} {n:Nat} {a:Act} {e:Env} (h:Sat dm n a e):∀ {xs:List Operand} {vs:List Value},e.evs xs=some vs→xs.map a.eval=vs
  | [],vs,hx=>by simp [Env.evs] at hx; simp [hx]
  | x::xs,vs,hx=>by
    simp only [Env.evs] at hx
    split at hx
    · rename_i v hv
      split at hx
      · rename_i us hu
        simp at hx; subst hx
        simp [h.ev hv,h.evs hu]
      · cases hx
    · cases hx
theorem Env.get_cons (j:Nat) (v:Value) (e:Env) (i:Nat):Env.get ((j,v)::e) i=if j=i then some v else Env.get e i:=by
 simp only [Env.get]
 by_cases h:j=i
 ·subst h; simp
 ·have:Nat.beq j i=false:=by
   cases hb:Nat.beq j i with
   | true=>exact absurd (Nat.eq_of_beq_eq_true hb) h
   | false=>rfl
  simp [this,h]
theorem Sat.put {dm:List Deferred} {n:Nat} {a:Act} {e:Env} (h:Sat dm n a e) {d:Nat} (hd:d<n) (v:Value):Sat dm n (a.put (some d) v) ((d,v)::e):=by
 refine ⟨by simp [Act.put,h.size],by simp [Act.put,h.defers],fun i u hu=>?_⟩
 rw [Env.get_cons] at hu
 simp only [Act.put]
 by_cases hi:d=i
 ·subst hi
  simp at hu; subst hu
  rw [Array.getElem?_setIfInBounds]
  simp [h.size,hd]
 ·simp [hi] at hu
  rw [Array.getElem?_setIfInBounds_ne hi]
  exact h.get i u hu
def Env.le : Env→Env→Prop
  | [],_=>True
  | (j,v)::e,e'=>e'.get j=some v∧Env.le e e'
theorem Env.le_get {e e':Env}:Env.le e e'→∀ i v,e.get i=some v→e'.get i=some v:=by
 induction e with
 | nil=>intro _ i v h; simp [Env.get] at h
 | cons p e ih =>
  obtain ⟨j,u⟩:=p
  intro h i v hv
  rw [Env.get_cons] at hv
  by_cases hi:j=i
  ·subst hi; simp at hv; subst hv; exact h.1
  ·simp [hi] at hv; exact ih h.2 i v hv
theorem Sat.le {dm:List Deferred} {n:Nat} {a:Act} {e e':Env} (h:Sat dm n a e') (hl:Env.le e e'):Sat dm n a e:=⟨h.size,h.defers,fun i v hv=>h.get i v (Env.le_get hl i v hv)⟩
def bm (n m:Nat):Array Bool:=((List.range n).map m.testBit).toArray
inductive HL where
  | blk (b:Nat) (cs:List Value) (t:TypeId)
  | row (e:TypeId) (size:Nat) (a:Option Nat) (n cap:Nat) (xs:List Value)
  | obj (b:Nat) (o:Obj)
def HL.block : HL→Option Nat
  | .blk b _ _=>some b
  | .row _ _ a _ _ _=>a
  | .obj b _=>some b
def rowA (a:Option Nat):Option Addr:=match a with | some g=>some ⟨g,0,none⟩ | none=>none
def HL.holds (w:World):HL→Prop
  | .blk b cs t=>w.heap[b]? = some (.cells cs.toArray t (0,0))
  | .row e size a n cap xs=>xs.length=n * size∧match a with
    | none=>n=0∧cap=0
    | some g=>∃ cur,w.heap[g]? = some (.cells cur e (0,0))∧n≤cap∧cap≤maxLen∧cur.size=cap * size∧cur.toList.take (n * size)=xs
  | .obj b o=>w.heap[b]? = some o
structure Own (w0:World) (S:List Nat) (w:World) (l:List HL):Prop where
  os:w.os=w0.os
  tape:w.tape=w0.tape
  output:w.output=w0.output
  size:w0.heap.size≤w.heap.size
  old:∀ b,b<w0.heap.size→b ∉ S→w.heap[b]? = w0.heap[b]?
  holds:∀ h∈l,h.holds w
  place:∀ h∈l,∀ b,h.block=some b→b∈S∨w0.heap.size≤b
  nodup:(l.filterMap HL.block).Nodup
theorem lt_size {w:World} {b:Nat} {o:Obj} (h:w.heap[b]? = some o):b<w.heap.size:=by
 rcases Nat.lt_or_ge b w.heap.size with h' | h'
 ·exact h'
 ·simp [Array.getElem?_eq_none h'] at h
theorem HL.holds_lt {w:World} {h:HL} (hh:h.holds w) {b:Nat} (hb:h.block=some b):b<w.heap.size:=by
 cases h with
 | blk b' cs t=>simp [HL.block] at hb; subst hb; exact lt_size hh
 | obj b' o=>simp [HL.block] at hb; subst hb; exact lt_size hh
 | row e size a n cap xs =>
  simp [HL.block] at hb; subst hb
  obtain ⟨_,cur,h1,_⟩:=hh
  exact lt_size h1
theorem HL.holds_of_block {w w':World} {h:HL} (hh:h.holds w) (hb:∀ b,h.block=some b→w'.heap[b]? = w.heap[b]?):h.holds w':=by
 cases h with
 | blk b cs t=>simp only [HL.holds] at *; rw [hb b rfl]; exact hh
 | obj b o=>simp only [HL.holds] at *; rw [hb b rfl]; exact hh
 | row e size a n cap xs =>
  cases a with
  | none=>exact hh
  | some g =>
   simp only [HL.holds] at *
   rw [hb g rfl]; exact hh
theorem Own.refl (w:World):Own w [] w []:=⟨rfl,rfl,rfl,Nat.le_refl _,fun _ _ _=>rfl,by simp,by simp,by simp⟩
theorem Own.below {w0 w:World} {l:List HL} (h:Own w0 [] w l):Below w0.heap.size w0 w :=
  ⟨h.os,h.tape,h.output,h.size,fun k hk=>h.old k hk (by simp)⟩
theorem Own.cellOld {w0 w:World} {S:List Nat} {l:List HL} (h:Own w0 S w l) {a:Addr} {v:Value} (ha:w0.cell? a=some v) (hS:a.block ∉ S):w.cell? a=some v:=by
 have hb:a.block<w0.heap.size:=by
  unfold World.cell? at ha
  split at ha
  ·rename_i hh; exact lt_size hh
  ·cases ha
 rw [World.cell?_of_block (w:=w0) (h.old _ hb hS)]; exact ha
theorem Own.ext {w0 w w':World} {S:List Nat} {l:List HL} (h:Own w0 S w l) (hb:Below w.heap.size w w'):Own w0 S w' l :=
  ⟨hb.os.trans h.os,hb.tape.trans h.tape,hb.output.trans h.output,Nat.le_trans h.size hb.size,
   fun b hb1 hb2=>(hb.block b (Nat.lt_of_lt_of_le hb1 h.size)).trans (h.old b hb1 hb2),
   fun x hx=>HL.holds_of_block (h.holds x hx) fun b hb'=>hb.block b (HL.holds_lt (h.holds x hx) hb'),
   h.place,h.nodup⟩
theorem Own.drew {w0 w:World} {S:List Nat} {l:List HL} (h:Own w0 S w l):Own w0 S { w with drawn:=w.drawn+1 } l :=
  h.ext ⟨rfl,rfl,rfl,Nat.le_refl _,fun _ _=>rfl⟩
def pick (idx:List Nat) (l:List HL):List HL:=idx.filterMap fun i=>l[i]?
theorem Zdd {idx:List Nat} {l:List HL} {h:HL} (hh:h∈pick idx l):h∈l:=by
 simp only [pick,List.mem_filterMap] at hh
 obtain ⟨i,_,hi⟩:=hh
 exact List.mem_of_getElem? hi
theorem W2 {l:List HL} (hn:(l.filterMap HL.block).Nodup) {i j:Nat} {x y:HL} {b:Nat} (hi:l[i]? = some x) (hj:l[j]? = some y)
    (hx:x.block=some b) (hy:y.block=some b):i=j:=by
  induction l generalizing i j with
  | nil=>simp at hi
  | cons z l ih =>
    have mem:∀ {k:Nat} {u:HL},l[k]? = some u→u.block=some b→b∈l.filterMap HL.block:=fun hk hu=>List.mem_filterMap.2 ⟨_,List.mem_of_getElem? hk,hu⟩
    cases i with
    | zero =>
      cases j with
      | zero=>rfl
      | succ j =>
        simp at hi hj; subst hi
        simp only [List.filterMap_cons,hx,List.nodup_cons] at hn
        exact absurd (mem hj hy) hn.1
    | succ i =>
      cases j with
      | zero =>
        simp at hi hj; subst hj
        simp only [List.filterMap_cons,hy,List.nodup_cons] at hn
        exact absurd (mem hi hx) hn.1
      | succ j =>
        simp at hi hj
        have hn':(l.filterMap HL.block).Nodup:=by
          simp only [List.filterMap_cons] at hn
          split at hn
          · exact hn
          · exact (List.nodup_cons.1 hn).2
        rw [ih hn' hi hj]
theorem Zoe {idx:List Nat} {l:List HL} (hi:idx.Nodup) (hn:(l.filterMap HL.block).Nodup):((pick idx l).filterMap HL.block).Nodup:=by
 induction idx with
 | nil=>simp [pick]
 | cons i idx ih =>
  have hi':=List.nodup_cons.1 hi
  have hp:pick (i::idx) l=(match l[i]? with | some x=>[x] | none=>[])++pick idx l:=by
   simp only [pick,List.filterMap_cons]; cases l[i]? <;> rfl
  rw [hp,List.filterMap_append]
  cases hx:l[i]? with
  | none=>simpa using ih hi'.2
  | some x =>
   cases hb:x.block with
   | none=>simpa [hb] using ih hi'.2
   | some b =>
    simp only [List.filterMap_cons,hb,List.filterMap_nil,List.singleton_append,List.nodup_cons]
    refine ⟨fun hm=>?_,ih hi'.2⟩
    obtain ⟨y,hy,hyb⟩:=List.mem_filterMap.1 hm
    simp only [pick,List.mem_filterMap] at hy
    obtain ⟨j,hj,hjy⟩:=hy
    have:=W2 hn hx hjy hb hyb
    subst this
    exact hi'.1 hj
theorem Own.pick {w0 w:World} {S:List Nat} {l:List HL} (h:Own w0 S w l) (idx:List Nat) (hi:idx.Nodup):Own w0 S w (pick idx l) :=
  ⟨h.os,h.tape,h.output,h.size,h.old,fun x hx=>h.holds x (Zdd hx),fun x hx=>h.place x (Zdd hx),Zoe hi h.nodup⟩
def Sub (l' l:List HL):Prop:=∃ idx:List Nat,idx.Nodup∧l'=pick idx l
theorem Own.sub {w0 w:World} {S:List Nat} {l l':List HL} (h:Own w0 S w l) (hs:Sub l' l):Own w0 S w l':=by
 obtain ⟨idx,hi,rfl⟩:=hs; exact h.pick idx hi
theorem Own.alloc {w0 w:World} {S:List Nat} {l:List HL} (h:Own w0 S w l) (x:HL) (o:Obj) (hx:x.block=some w.heap.size) (hh:x.holds (w.alloc o)):Own w0 S (w.alloc o) (x::l):=by
 have he:Own w0 S (w.alloc o) l:=h.ext ((Below.refl _ w).alloc (Nat.le_refl _) o)
 refine ⟨he.os,he.tape,he.output,he.size,he.old,?_,?_,?_⟩
 ·intro y hy; rcases List.mem_cons.1 hy with rfl | hy
  ·exact hh
  ·exact he.holds y hy
 ·intro y hy b hb; rcases List.mem_cons.1 hy with rfl | hy
  ·rw [hx] at hb; cases hb; exact .inr h.size
  ·exact he.place y hy b hb
 ·simp only [List.filterMap_cons,hx,List.nodup_cons]
  refine ⟨fun hm=>?_,h.nodup⟩
  obtain ⟨y,hy,hyb⟩:=List.mem_filterMap.1 hm
  have:=HL.holds_lt (h.holds y hy) hyb
  omega
theorem Own.newBlk {w0 w:World} {S:List Nat} {l:List HL} (h:Own w0 S w l) (cs:List Value) (t:TypeId):Own w0 S (w.alloc (.cells cs.toArray t)) (.blk w.heap.size cs t::l) :=
  h.alloc _ _ rfl (heap_alloc_new w _)
theorem mem_set {l:List HL} {i:Nat} {y z:HL} (h:z∈l.set i y):z=y∨∃ j,j≠i∧l[j]? = some z:=by
 obtain ⟨j,hj⟩:=List.mem_iff_getElem?.1 h
 rw [List.getElem?_set] at hj
 by_cases hij:i=j
 ·subst hij
  simp at hj
  exact .inl hj.2.symm
 ·simp [hij] at hj; exact .inr ⟨j,fun e=>hij e.symm,hj⟩
theorem Zir {l:List HL} {i:Nat} {y:HL} (hn:(l.filterMap HL.block).Nodup) (hy:∀ b,y.block=some b→∀ j z,j≠i→l[j]? = some z→z.block≠some b) :
    ((l.set i y).filterMap HL.block).Nodup:=by
  induction l generalizing i with
  | nil=>simp
  | cons z l ih =>
    have hn':(l.filterMap HL.block).Nodup:=by
      simp only [List.filterMap_cons] at hn
      split at hn
      · exact hn
      · exact (List.nodup_cons.1 hn).2
    cases i with
    | zero =>
      simp only [List.set_cons_zero,List.filterMap_cons]
      cases hb:y.block with
      | none=>exact hn'
      | some b =>
        refine List.nodup_cons.2 ⟨fun hm=>?_,hn'⟩
        obtain ⟨u,hu,hub⟩:=List.mem_filterMap.1 hm
        obtain ⟨j,hj⟩:=List.mem_iff_getElem?.1 hu
        exact hy b hb (j+1) u (by omega) (by simpa using hj) hub
    | succ i =>
      have ih':=ih hn' (i:=i) (fun b hb j u hji hj=>hy b hb (j+1) u (by omega) (by simpa using hj))
      simp only [List.set_cons_succ,List.filterMap_cons]
      cases hb:z.block with
      | none=>exact ih'
      | some b =>
        refine List.nodup_cons.2 ⟨fun hm=>?_,ih'⟩
        obtain ⟨u,hu,hub⟩:=List.mem_filterMap.1 hm
        rcases mem_set hu with rfl | ⟨j,hji,hj⟩
        · exact hy b hub 0 z (by omega) rfl hb
        · have:=W2 hn (i:=0) (j:=j+1) rfl (by simpa using hj) hb hub
          omega
theorem Own.turn {w0 w w':World} {S:List Nat} {l:List HL} (h:Own w0 S w l) {i:Nat} {x y:HL} (hi:l[i]? = some x)
    (hos:w'.os=w.os) (htape:w'.tape=w.tape) (hout:w'.output=w.output) (hsize:w.heap.size≤w'.heap.size)
    (hb:∀ b,b<w.heap.size→x.block≠some b→w'.heap[b]? = w.heap[b]?) (hy:y.holds w') (hyb:∀ b,y.block=some b→x.block=some b∨w.heap.size≤b):Own w0 S w' (l.set i y):=by
  have hx:x∈l:=List.mem_of_getElem? hi
  refine ⟨hos.trans h.os,htape.trans h.tape,hout.trans h.output,Nat.le_trans h.size hsize,?_,?_,?_,?_⟩
  · intro b h1 h2
    rw [hb b (Nat.lt_of_lt_of_le h1 h.size) (fun e=>?_),h.old b h1 h2]
    rcases h.place x hx b e with h3 | h3
    · exact h2 h3
    · omega
  · intro z hz
    rcases mem_set hz with rfl | ⟨j,hji,hj⟩
    · exact hy
    · have hzl:=List.mem_of_getElem? hj
      refine HL.holds_of_block (h.holds z hzl) fun b hzb=>hb b (HL.holds_lt (h.holds z hzl) hzb) fun e=>?_
      exact hji (W2 h.nodup hj hi hzb e)
  · intro z hz b hzb
    rcases mem_set hz with rfl | ⟨j,hji,hj⟩
    · rcases hyb b hzb with h3 | h3
      · exact h.place x hx b h3
      · exact .inr (Nat.le_trans h.size h3)
    · exact h.place z (List.mem_of_getElem? hj) b hzb
  · refine Zir h.nodup fun b hyb' j z hji hj hzb=>?_
    rcases hyb b hyb' with h3 | h3
    · exact hji (W2 h.nodup hj hi hzb h3)
    · have:=HL.holds_lt (h.holds z (List.mem_of_getElem? hj)) hzb
      omega
theorem Own.blkCell {w0 w:World} {S:List Nat} {l:List HL} (h:Own w0 S w l) (i:Nat) {b off:Nat} {cs:List Value} {t:TypeId} {v:Value} (hi:l[i]? = some (.blk b cs t)) (hv:cs[off]? = some v) :
    w.cell? ⟨b,off,none⟩=some v:=by
  have:=h.holds _ (List.mem_of_getElem? hi)
  simp only [HL.holds] at this
  simp [World.cell?,this,hv]
theorem Own.storeBlk {w0 w:World} {S:List Nat} {l:List HL} (h:Own w0 S w l) {i:Nat} {b off:Nat} {cs:List Value} {t:TypeId} (hi:l[i]? = some (.blk b cs t)) (u:Value) :
    Own w0 S (w.setCell ⟨b,off,none⟩ u) (l.set i (.blk b (cs.set off u) t)):=by
  have hb:=h.holds _ (List.mem_of_getElem? hi)
  simp only [HL.holds] at hb
  have hlt:=lt_size hb
  refine h.turn hi rfl rfl rfl (by simp [World.setCell]) (fun k hk hne=>Below.heap_setCell _ _ _ _ (fun e=>hne (by simp [HL.block,e]))) ?_ (fun k hk=>.inl hk)
  show (w.heap.modify b _)[b]? = _
  rw [Array.getElem?_eq_getElem (by simpa using hlt),Array.getElem_modify_self]
  have h':w.heap[b]=.cells cs.toArray t (0,0):=by simpa [Array.getElem?_eq_getElem hlt] using hb
  simp [h']
def GK (dm:List Deferred) (n:Nat) (K:Act→World→Prop) (e:Env) (w0:World) (S:List Nat) (l:List HL):Prop :=
  ∀ a w,Sat dm n a e→Own w0 S w l→K a w
section
variable {dm:List Deferred} {P:Program} {n:Nat} {Q:Exit→Act→World→Prop} {K:Act→World→Prop} {e e':Env} {w0:World} {S:List Nat} {l l':List HL}
theorem YH (t:TypeId) (size:Nat) (h:GK dm n K e w0 S (.row t size none 0 0 []::l)):GK dm n K e w0 S l :=
  fun a w hs ho=>h a w hs ⟨ho.os,ho.tape,ho.output,ho.size,ho.old,
    fun x hx=>by rcases List.mem_cons.1 hx with rfl | hx; exact ⟨by simp,rfl,rfl⟩; exact ho.holds x hx,
    fun x hx b hb=>by rcases List.mem_cons.1 hx with rfl | hx; cases hb; exact ho.place x hx b hb,
    by have:=ho.nodup; simp only [List.filterMap_cons,HL.block]; exact this⟩
theorem Zw {d:Nat} {p:Prop} [Decidable p] (h1:p→GK dm n K ((d,.bool true)::e) w0 S l) (h2:¬ p→GK dm n K ((d,.bool false)::e) w0 S l):GK dm n K ((d,.bool (decide p))::e) w0 S l:=by
 by_cases h:p
 ·rw [decide_eq_true h]; exact h1 h
 ·rw [decide_eq_false h]; exact h2 h
theorem Z0 {d:Nat} {b:Bool} (h1:b=true→GK dm n K ((d,.bool true)::e) w0 S l) (h2:b=false→GK dm n K ((d,.bool false)::e) w0 S l):GK dm n K ((d,.bool b)::e) w0 S l:=by
 cases b
 ·exact h2 rfl
 ·exact h1 rfl
theorem Zb {x y:Code} (h:GK dm n (x.wp P (Exit.then (y.wp P Q) Q)) e w0 S l):GK dm n ((Code.seq x y).wp P Q) e w0 S l:=fun a w hs ho=>wp_seq (h a w hs ho)
theorem ZB {id:Nat} {c:Code} (h:GK dm n (c.wp P (Exit.inBlock id Q)) e w0 S l):GK dm n ((Code.block id c).wp P Q) e w0 S l:=fun a w hs ho=>wp_block (h a w hs ho)
theorem Zv (h:GK dm n (Q .normal) e w0 S l):GK dm n (Code.skip.wp P Q) e w0 S l:=fun a w hs ho=>wp_skip (h a w hs ho)
theorem Z1 {id:Nat} (h:GK dm n (Q (.exit id)) e w0 S l):GK dm n ((Code.exit id).wp P Q) e w0 S l:=fun a w hs ho=>wp_exit (h a w hs ho)
theorem Zu (h:GK dm n (Q .ret) e w0 S l):GK dm n (Code.ret.wp P Q) e w0 S l:=fun a w hs ho=>wp_ret (h a w hs ho)
theorem Za {id:Nat} {ops:List Oper} (h:GK dm n (wpList P ops.toArray Q ops) e w0 S l):GK dm n ((Code.region id ops.toArray false).wp P Q) e w0 S l:=fun a w hs ho=>wp_region_lit (h a w hs ho)
theorem Zge {c:Operand} {x y:Code} {t:Bool} (hc:e.ev c=some (.bool t)) (ht:t=true→GK dm n (x.wp P Q) e w0 S l) (hf:t=false→GK dm n (y.wp P Q) e w0 S l) :
    GK dm n ((Code.cond c x y).wp P Q) e w0 S l:=fun a w hs ho=>wp_cond_split (hs.ev hc) (fun h=>ht h a w hs ho) (fun h=>hf h a w hs ho)
theorem Zk {c:Operand} {x y:Code} (hc:e.ev c=some (.bool true)) (ht:GK dm n (x.wp P Q) e w0 S l):GK dm n ((Code.cond c x y).wp P Q) e w0 S l:=fun a w hs ho=>wp_cond_true (hs.ev hc) (ht a w hs ho)
theorem Zl {c:Operand} {x y:Code} (hc:e.ev c=some (.bool false)) (ht:GK dm n (y.wp P Q) e w0 S l):GK dm n ((Code.cond c x y).wp P Q) e w0 S l:=fun a w hs ho=>wp_cond_false (hs.ev hc) (ht a w hs ho)
theorem Ze {K:Act→World→Prop} (h:GK dm n K e w0 S l):GK dm n (Exit.then K Q .normal) e w0 S l:=h
theorem Zs {K:Act→World→Prop} {id:Nat} (h:GK dm n (Q (.exit id)) e w0 S l):GK dm n (Exit.then K Q (.exit id)) e w0 S l:=h
theorem Zh {K:Act→World→Prop} (h:GK dm n (Q .ret) e w0 S l):GK dm n (Exit.then K Q .ret) e w0 S l:=h
theorem ZI {id:Nat} (h:GK dm n (Q .normal) e w0 S l):GK dm n (Exit.inBlock id Q .normal) e w0 S l:=h
theorem Zx {id:Nat} (h:GK dm n (Q .ret) e w0 S l):GK dm n (Exit.inBlock id Q .ret) e w0 S l:=h
theorem ZE {id:Nat} (h:GK dm n (Q .normal) e w0 S l):GK dm n (Exit.inBlock id Q (.exit id)) e w0 S l:=by
 intro a w hs ho; simp only [Exit.inBlock,if_true]; exact h a w hs ho
theorem WJ {id id':Nat} (hne:Nat.beq id' id=false) (h:GK dm n (Q (.exit id')) e w0 S l):GK dm n (Exit.inBlock id Q (.exit id')) e w0 S l:=by
 intro a w hs ho
 have:id'≠id:=fun h=>by subst h; simp at hne
 simp only [Exit.inBlock,this,if_false]; exact h a w hs ho
theorem ZR {ι:Type} {p:ι→Prop} {E:ι→Env} {L:ι→List HL} (j:ι) (hp:p j) (he:Env.le (E j) e) (hl:Sub (L j) l) :
    GK dm n (fun a w=>∃ j,p j∧Sat dm n a (E j)∧Own w0 S w (L j)) e w0 S l:=fun a w hs ho=>⟨j,hp,hs.le he,ho.sub hl⟩
theorem gc_loop {c:Code} {ι:Type} (p:ι→Prop) (E:ι→Env) (L:ι→List HL) (m:ι→Nat) (j0:ι) (hp:p j0) (he:Env.le (E j0) e) (hl:Sub (L j0) l)
    (body:∀ j,p j→GK dm n (c.wp P (Exit.then (fun a w=>∃ j',(p j'∧m j'<m j)∧Sat dm n a (E j')∧Own w0 S w (L j')) Q)) (E j) w0 S (L j)) :
    GK dm n ((Code.loop c).wp P Q) e w0 S l:=by
  intro a w hs ho b kk cs
  have key:∀ k:Nat,∀ (j:ι),m j=k→p j→∀ a w,Sat dm n a (E j)→Own w0 S w (L j) →
      ∃ x a' w',Q x a' w'∧Arrives P (lone (b.at a (.code c :: .inLoop c::kk)) cs w) b kk cs x a' w':=by
    intro k
    induction k using Nat.strongRecOn with
    | _ k ih =>
      intro j hk hpj a w hs ho
      obtain ⟨x,a1,w1,hq,harr⟩:=body j hpj a w hs ho b (.inLoop c::kk) cs
      cases x with
      | normal =>
        obtain ⟨j',⟨hp',hlt⟩,hs',ho'⟩:=hq
        obtain ⟨x2,a2,w2,hq2,harr2⟩:=ih (m j') (hk ▸ hlt) j' rfl hp' a1 w1 hs' ho'
        exact ⟨x2,a2,w2,hq2,.of_steps (Steps.trans harr (.one step_inLoop)) harr2⟩
      | exit id=>exact ⟨_,a1,w1,hq,.pass (x:=.inLoop c) rfl (fun _ _=>.inl (by simp)) harr⟩
      | goto id=>exact ⟨_,a1,w1,hq,.pass (x:=.inLoop c) rfl (fun _ _=>.inl (by simp)) harr⟩
      | ret=>exact ⟨_,a1,w1,hq,.pass (x:=.inLoop c) rfl (fun _ _=>.inl (by simp)) harr⟩
      | panic ch=>exact ⟨_,a1,w1,hq,.pass (x:=.inLoop c) rfl (fun _ _=>.inl (by simp)) harr⟩
      | outgrown=>exact ⟨_,a1,w1,hq,.pass (x:=.inLoop c) rfl (fun _ _=>.inl (by simp)) harr⟩
  obtain ⟨x,a',w',hq,harr⟩:=key _ j0 rfl hp a w (hs.le he) (ho.sub hl)
  exact ⟨x,a',w',hq,.of_steps (.one step_loop) harr⟩
end
def Rd (P:Program) (dm:List Deferred) (n:Nat) (e:Env) (w0:World) (S:List Nat) (l:List HL) (o:Oper) (v:Value):Prop :=
  ∀ a w,Sat dm n a e→Own w0 S w l→(execOp a.eval o).run P w=.ok (.value v) w
section
variable {dm:List Deferred} {P:Program} {n:Nat} {e:Env} {w0:World} {S:List Nat} {l:List HL} {dst:Option Tmp} {ty:TypeId} {pos:String} {aft:Array Edge} {gd:Option (Nat × Bool)}
theorem Zo {x:Operand} {v:Value} (hx:e.ev x=some v):Rd P dm n e w0 S l ⟨dst,.move x,ty,pos,aft,gd⟩ v :=
  fun a w hs ho=>by simp [execOp,hs.ev hx]
theorem ZY {x:Operand} {v:Value} (hx:e.ev x=some v):Rd P dm n e w0 S l ⟨dst,.assign x,ty,pos,aft,gd⟩ v :=
  fun a w hs ho=>by simp [execOp,hs.ev hx]
theorem Zq {c x y:Operand} {v:Value} (hc:e.ev c=some (.bool true)) (hx:e.ev x=some v):Rd P dm n e w0 S l ⟨dst,.pick c x y,ty,pos,aft,gd⟩ v :=
  fun a w hs ho=>by simp [execOp,hs.ev hc,hs.ev hx,asBool]
theorem Zn {c x y:Operand} {v:Value} (hc:e.ev c=some (.bool false)) (hx:e.ev y=some v):Rd P dm n e w0 S l ⟨dst,.pick c x y,ty,pos,aft,gd⟩ v :=
  fun a w hs ho=>by simp [execOp,hs.ev hc,hs.ev hx,asBool]
theorem ZN {x:Operand} {ad:Addr} (hx:e.ev x=some (.pointer (some ad))):Rd P dm n e w0 S l ⟨dst,.nilCheck x,ty,pos,aft,gd⟩ (.pointer (some ad)) :=
  fun a w hs ho=>by simp [execOp,hs.ev hx]
theorem ZD {x:Operand} {i:Nat} {vs:Array Value} {v:Value} (hx:e.ev x=some (.tuple vs)) (hv:vs[i]? = some v):Rd P dm n e w0 S l ⟨dst,.extract x i,ty,pos,aft,gd⟩ v :=
  fun a w hs ho=>by simp [execOp,hs.ev hx,Instr.extract,hv]
theorem Zof (op:BinOp) (t:TypeId) (x y:Operand) (k:IntKind) (a b:Int) (w:World) (hop:op≠.shl∧op≠.shr) :
    (do eqGuard op t x y (.int k a) (.int k b); binOp op t (.int k a) (.int k b):Sem Value).run P w=(match op with
    | .add | .sub | .mul=>Op.intArith op k a b
    | .quo | .rem=>Op.intDiv op k a b
    | .and | .or | .xor | .andNot=>Op.intBits op k a b
    | _=>Op.intCmp op a b).run P w:=by
  obtain ⟨h1,h2⟩:=hop
  cases op <;> simp [eqGuard,binOp,pure] at * <;> rfl
theorem Wm {op:BinOp} {t ty':TypeId} {x y:Operand} {k:IntKind} {p q:Int} {v:Value} (hx:e.ev x=some (.int k p)) (hy:e.ev y=some (.int k q)) (hop:op≠.shl∧op≠.shr)
    (hv:∀ w,(match op with
    | .add | .sub | .mul=>Op.intArith op k p q
    | .quo | .rem=>Op.intDiv op k p q
    | .and | .or | .xor | .andNot=>Op.intBits op k p q
    | _=>Op.intCmp op p q).run P w=.ok v w):Rd P dm n e w0 S l ⟨dst,.binOp op t x y ty',ty,pos,aft,gd⟩ v :=
  fun a w hs ho=>by
    have:=Zof (P:=P) op t x y k p q w hop
    simp only [execOp,hs.ev hx,hs.ev hy,Sem.run_bind] at *
    rw [this,hv]; rfl
theorem Wy {z:Int} (h1:-9223372036854775808≤z) (h2:z≤9223372036854775807):IntKind.i64.wrap z=z:=by
 rw [IntKind.wrap_i64]; omega
variable {t ty':TypeId} {x y:Operand} {k:IntKind} {p q:Int}
theorem XR (hx:e.ev x=some (.int .i64 p)) (hy:e.ev y=some (.int .i64 q)) (h1:-9223372036854775808≤p+q) (h2:p+q≤9223372036854775807):Rd P dm n e w0 S l ⟨dst,.binOp .add t x y ty',ty,pos,aft,gd⟩ (.int .i64 (p+q)) :=
  Wm hx hy (by decide) fun w=>by simp [Op.intArith,Wy h1 h2]
theorem WX (hx:e.ev x=some (.int .i64 p)) (hy:e.ev y=some (.int .i64 q)) (h1:-9223372036854775808≤p - q) (h2:p - q≤9223372036854775807):Rd P dm n e w0 S l ⟨dst,.binOp .sub t x y ty',ty,pos,aft,gd⟩ (.int .i64 (p - q)) :=
  Wm hx hy (by decide) fun w=>by simp [Op.intArith,Wy h1 h2]
theorem Zgy (hx:e.ev x=some (.int .i64 p)) (hy:e.ev y=some (.int .i64 q)) (h1:-9223372036854775808≤p * q) (h2:p * q≤9223372036854775807):Rd P dm n e w0 S l ⟨dst,.binOp .mul t x y ty',ty,pos,aft,gd⟩ (.int .i64 (p * q)) :=
  Wm hx hy (by decide) fun w=>by simp [Op.intArith,Wy h1 h2]
theorem Zpw (hx:e.ev x=some (.int k p)) (hy:e.ev y=some (.int k q)):Rd P dm n e w0 S l ⟨dst,.binOp .add t x y ty',ty,pos,aft,gd⟩ (.int k (k.wrap (p+q))) :=
  Wm hx hy (by decide) fun w=>by simp [Op.intArith]
theorem rd_mulk (hx:e.ev x=some (.int k p)) (hy:e.ev y=some (.int k q)):Rd P dm n e w0 S l ⟨dst,.binOp .mul t x y ty',ty,pos,aft,gd⟩ (.int k (k.wrap (p * q))) :=
  Wm hx hy (by decide) fun w=>by simp [Op.intArith]
theorem rd_quo (hx:e.ev x=some (.int .i64 p)) (hy:e.ev y=some (.int .i64 q)) (h0:0≤p) (h2:p≤9223372036854775807) (hq:1≤q):Rd P dm n e w0 S l ⟨dst,.binOp .quo t x y ty',ty,pos,aft,gd⟩ (.int .i64 (p / q)) :=
  Wm hx hy (by decide) fun w=>by
    have h3:p.tdiv q=p / q:=by rw [Int.tdiv_eq_ediv_of_nonneg h0]
    have h4:p / q≤p:=Int.ediv_le_self _ h0
    have h5:0≤p / q:=Int.ediv_nonneg h0 (by omega)
    simp [Op.intDiv,show ¬ q=0 by omega,h3,Wy (by omega:-9223372036854775808≤p / q) (by omega)]
theorem Zog (hx:e.ev x=some (.int k p)) (hy:e.ev y=some (.int k q)) (h0:0≤p) (hq:1≤q):Rd P dm n e w0 S l ⟨dst,.binOp .rem t x y ty',ty,pos,aft,gd⟩ (.int k (p % q)) :=
  Wm hx hy (by decide) fun w=>by
    have h3:p.tmod q=p % q:=by rw [Int.tmod_eq_emod_of_nonneg h0]
    simp [Op.intDiv,show ¬ q=0 by omega,h3]
theorem Z8 (hx:e.ev x=some (.int k p)) (hy:e.ev y=some (.int k q)):Rd P dm n e w0 S l ⟨dst,.binOp .eql t x y ty',ty,pos,aft,gd⟩ (.bool (decide (p=q))) :=
  Wm hx hy (by decide) fun w=>by simp only [Op.intCmp]; rfl
theorem Z4 (hx:e.ev x=some (.int k p)) (hy:e.ev y=some (.int k q)):Rd P dm n e w0 S l ⟨dst,.binOp .neq t x y ty',ty,pos,aft,gd⟩ (.bool (decide (p≠q))) :=
  Wm hx hy (by decide) fun w=>by
    have:decide (p≠q)=(p != q):=by rw [Bool.eq_iff_iff]; simp
    simp only [Op.intCmp,this]; rfl
theorem ZX (hx:e.ev x=some (.int k p)) (hy:e.ev y=some (.int k q)):Rd P dm n e w0 S l ⟨dst,.binOp .lss t x y ty',ty,pos,aft,gd⟩ (.bool (decide (p<q))) :=
  Wm hx hy (by decide) fun w=>by simp [Op.intCmp]
theorem X7 (hx:e.ev x=some (.int k p)) (hy:e.ev y=some (.int k q)):Rd P dm n e w0 S l ⟨dst,.binOp .leq t x y ty',ty,pos,aft,gd⟩ (.bool (decide (p≤q))) :=
  Wm hx hy (by decide) fun w=>by simp [Op.intCmp]
theorem Yk (hx:e.ev x=some (.int k p)) (hy:e.ev y=some (.int k q)):Rd P dm n e w0 S l ⟨dst,.binOp .gtr t x y ty',ty,pos,aft,gd⟩ (.bool (decide (q<p))) :=
  Wm hx hy (by decide) fun w=>by simp [Op.intCmp]
theorem Xs (hx:e.ev x=some (.int k p)) (hy:e.ev y=some (.int k q)):Rd P dm n e w0 S l ⟨dst,.binOp .geq t x y ty',ty,pos,aft,gd⟩ (.bool (decide (q≤p))) :=
  Wm hx hy (by decide) fun w=>by simp [Op.intCmp]
theorem Zkl (a b:Nat) (ha:a<2 ^ 63) (hb:b<2 ^ 63) (f:Nat→Nat→Nat) (g:(k:Nat)→BitVec k→BitVec k→BitVec k) (hg:∀ x y:BitVec 64,(g 64 x y).toNat=f x.toNat y.toNat) (hf:f a b<2 ^ 63) :
    IntKind.i64.wrap ((g 64 (BitVec.ofInt 64 (a:Int)) (BitVec.ofInt 64 (b:Int))).toNat:Int)=(f a b:Nat):=by
  have e1:(BitVec.ofInt 64 (a:Int)).toNat=a:=by simp; omega
  have e2:(BitVec.ofInt 64 (b:Int)).toNat=b:=by simp; omega
  rw [hg,e1,e2]
  exact Wy (by omega) (by omega)
theorem rd_or {a b:Nat} (hx:e.ev x=some (.int .i64 a)) (hy:e.ev y=some (.int .i64 b)) (ha:a<9223372036854775808) (hb:b<9223372036854775808):Rd P dm n e w0 S l ⟨dst,.binOp .or t x y ty',ty,pos,aft,gd⟩ (.int .i64 ((a ||| b:Nat):Int)) :=
  Wm hx hy (by decide) fun w=>by
    have:=Zkl a b ha hb (· ||| ·) (fun _ x y=>x ||| y) (fun _ _=>BitVec.toNat_or ..) (Nat.or_lt_two_pow (n:=63) ha hb)
    exact congrArg (fun z=>Result.ok (Value.int .i64 z) w) this
theorem Jf {op:BinOp} {yk:IntKind} {v:Value} (hx:e.ev x=some (.int k p)) (hy:e.ev y=some (.int yk q)) (hop:op=.shl∨op=.shr) (hv:∀ w,(Op.shift op k p yk q).run P w=.ok v w) :
    Rd P dm n e w0 S l ⟨dst,.binOp op t x y ty',ty,pos,aft,gd⟩ v :=
  fun a w hs ho=>by
    rcases hop with rfl | rfl <;>
    · have h:=hv w
      simp only [execOp,hs.ev hx,hs.ev hy,eqGuard,binOp,Sem.run_bind]
      simp [h]
theorem rd_shl {a b:Nat} {yk:IntKind} (hx:e.ev x=some (.int .i64 a)) (hy:e.ev y=some (.int yk b)) (hb:b≤64) (ha:a * 2 ^ b<9223372036854775808):Rd P dm n e w0 S l ⟨dst,.binOp .shl t x y ty',ty,pos,aft,gd⟩ (.int .i64 ((a <<< b:Nat):Int)) :=
  Jf hx hy (.inl rfl) fun w=>by
    have h1:min b 64=b:=by omega
    have h2:((a:Int) * 2 ^ b)=((a <<< b:Nat):Int):=by rw [Nat.shiftLeft_eq]; simp
    have h3:a <<< b<9223372036854775808:=by rw [Nat.shiftLeft_eq]; exact ha
    simp only [Op.shift,show ¬ ((b:Int)<0) by omega,if_false,IntKind.bits,Int.toNat_natCast,h1,h2]
    rw [Wy (by omega) (by omega)]; rfl
theorem rd_shr {a b:Nat} {yk:IntKind} (hx:e.ev x=some (.int .i64 a)) (hy:e.ev y=some (.int yk b)) (ha:a<9223372036854775808):Rd P dm n e w0 S l ⟨dst,.binOp .shr t x y ty',ty,pos,aft,gd⟩ (.int .i64 ((a >>> b:Nat):Int)) :=
  Jf hx hy (.inr rfl) fun w=>by
    have h4:(a:Int).fdiv (2 ^ (min b 64))=((a >>> b:Nat):Int):=by
      rw [Nat.shiftRight_eq_div_pow]
      rcases Nat.le_total b 64 with h | h
      · rw [Nat.min_eq_left h,Int.fdiv_eq_ediv_of_nonneg _ (by exact_mod_cast Nat.zero_le _)]; simp
      · rw [Nat.min_eq_right h,Int.fdiv_eq_ediv_of_nonneg _ (by decide)]
        have e1:a / 2 ^ b=0:=Nat.div_eq_of_lt (Nat.lt_of_lt_of_le ha (Nat.le_trans (by decide) (Nat.pow_le_pow_right (by decide) h)))
        rw [e1]
        have:(a:Int) / 2 ^ 64=((a / 2 ^ 64:Nat):Int):=by simp
        rw [this,Nat.div_eq_of_lt (by omega)]
    simp only [Op.shift,show ¬ ((b:Int)<0) by omega,if_false,IntKind.bits,Int.toNat_natCast,h4]; rfl
theorem rd_not {b:Bool} (hx:e.ev x=some (.bool b)):Rd P dm n e w0 S l ⟨dst,.unOp .not t x,ty,pos,aft,gd⟩ (.bool (!b)) :=
  fun a w hs ho=>by simp [execOp,hs.ev hx,Op.unary]
theorem Zga (d:Nat) (hu:∀ w,(underlying t).run P w=.ok .bool w) (b c:Bool) (w:World):(Op.equalIn (d+1) t (.bool b) (.bool c)).run P w=.ok (b == c) w:=by
 simp only [Op.equalIn,Sem.run_bind,hu,Result.andThen_ok]; rfl
theorem Zis (hu:∀ w,(underlying t).run P w=.ok .bool w) (b c:Bool) (w:World):(Op.equal t (.bool b) (.bool c)).run P w=.ok (b == c) w:=Zga 9999 hu b c w
theorem Zpx {b c:Bool} (hu:∀ w,(underlying t).run P w=.ok .bool w) (hx:e.ev x=some (.bool b)) (hy:e.ev y=some (.bool c)):Rd P dm n e w0 S l ⟨dst,.binOp .neq t x y ty',ty,pos,aft,gd⟩ (.bool (b != c)) :=
  fun a w hs ho=>by
    have h:=Zis hu b c w
    simp only [execOp,hs.ev hx,hs.ev hy,eqGuard,binOp,Sem.run_bind,Bool.not_true,Bool.false_eq_true,if_false,Sem.run_pure,Result.andThen_ok,h]; rfl
theorem Xb {src d:TypeId} {sd:TypeDesc} {k':IntKind} {r:Int} (h1:∀ w,(underlying src).run P w=.ok sd w) (h2:∀ w,(underlying d).run P w=.ok (.int k') w) (hx:e.ev x=some (.int k p)) (hr:k'.wrap p=r) :
    Rd P dm n e w0 S l ⟨dst,.convert src d x,ty,pos,aft,gd⟩ (.int k' r) :=
  fun a w hs ho=>by subst hr; cases sd <;> simp [execOp,hs.ev hx,convert,h1,h2,Conv.intToInt]
end
structure TyF (P:Program) (E:TypeId) (z:Value) (size bytes:Nat):Prop where
  ex:∃ i,P.info? E=some i∧i.zero=some z∧i.size=size∧i.bytes=bytes
theorem TyF.mk' {P:Program} {E:TypeId} {z:Value} {size bytes:Nat} (h:(P.info? E).map (fun i=>(i.zero,i.size,i.bytes))=some (some z,size,bytes)):TyF P E z size bytes:=⟨info_parts h⟩
theorem TyF.runZero {P:Program} {E:TypeId} {z:Value} {size bytes:Nat} (h:TyF P E z size bytes) (w:World):(zeroValue E).run P w=.ok z w:=by
 obtain ⟨i,h1,h2,h3,h4⟩:=h.ex
 simp [zeroValue,typeInfo,h1,h2]
theorem TyF.runSize {P:Program} {E:TypeId} {z:Value} {size bytes:Nat} (h:TyF P E z size bytes) (w:World):(sizeOf E).run P w=.ok size w:=by
 obtain ⟨i,h1,h2,h3,h4⟩:=h.ex
 simp [sizeOf,typeInfo,h1,h3]
def Zei : TypeDesc→Bool
  | .struct _ | .array _ _=>true
  | _=>false
theorem Zca {P:Program} {t:TypeId} {d:TypeDesc} (hu:P.underlying t=some d) (w:World):(isAgg t).run P w=.ok (Zei d) w:=by
 cases d <;> simp [isAgg,run_underlying hu,Zei]
def Cells (w:World) (a:Addr) (cs:List Value):Prop:=∀ j v,cs[j]? = some v→w.cell? (a.add j)=some v
theorem add_add (a:Addr) (m k:Nat):(a.add m).add k=a.add (m+k):=by
 simp only [Addr.add]
 by_cases h1:m=0
 ·subst h1; simp
 ·by_cases h2:k=0
  ·subst h2; simp [h1]
  ·simp [h1,h2,show ¬ (m+k=0) by omega,Nat.add_assoc]
section
variable {dm:List Deferred} {P:Program} {n:Nat} {e:Env} {w0:World} {S:List Nat} {l:List HL} {dst:Option Tmp} {ty:TypeId} {pos:String} {aft:Array Edge} {gd:Option (Nat × Bool)}
theorem Zp (i:Nat) {b off:Nat} {cs:List Value} {t:TypeId} {v:Value} (hi:l[i]? = some (.blk b cs t)) (hv:cs[off]? = some v):∀ w,Own w0 S w l→w.cell? ⟨b,off,none⟩=some v :=
  fun w ho=>ho.blkCell i hi hv
theorem Own.rowCell {w:World} (ho:Own w0 S w l) (i:Nat) {E:TypeId} {sz:Nat} {a:Option Nat} {m cap:Nat} {xs:List Value} {off:Nat} {v:Value} (hi:l[i]? = some (.row E sz a m cap xs)) (hv:xs[off]? = some v):w.cell? ⟨a.getD 0,off,none⟩=some v:=by
 have hh:=ho.holds _ (List.mem_of_getElem? hi)
 obtain ⟨h1,h2⟩:=hh
 cases a with
 | none =>
  obtain ⟨rfl,_⟩:=h2
  simp at h1; subst h1; simp at hv
 | some g =>
  obtain ⟨cur,h3,h4,h5,h6,h7⟩:=h2
  subst h7
  rw [List.getElem?_take] at hv
  split at hv
  ·simp [World.cell?,h3]; simpa using hv
  ·cases hv
theorem ld_row (i:Nat) {E:TypeId} {sz:Nat} {a:Option Nat} {m cap:Nat} {xs:List Value} {off:Nat} {v:Value} (hi:l[i]? = some (.row E sz a m cap xs)) (hv:xs[off]? = some v):∀ w,Own w0 S w l→w.cell? ⟨a.getD 0,off,none⟩=some v :=
  fun w ho=>ho.rowCell i hi hv
theorem JR {ad:Addr} {v:Value} (h:w0.cell? ad=some v) (hS:ad.block ∉ S):∀ w,Own w0 S w l→w.cell? ad=some v:=fun w ho=>ho.cellOld h hS
theorem Zej {ad:Addr} {cs:List Value} (h:Cells w0 ad cs) (hS:ad.block ∉ S):∀ w,Own w0 S w l→Cells w ad cs:=fun w ho j v hv=>ho.cellOld (h j v hv) (by
 have:(ad.add j).block=ad.block:=by simp only [Addr.add]; split <;> rfl
 rw [this]; exact hS)
theorem Zek (i:Nat) {E:TypeId} {sz:Nat} {a:Option Nat} {m cap:Nat} {xs cs:List Value} {off k:Nat} (hi:l[i]? = some (.row E sz a m cap xs)) (hcs:(xs.drop off).take k=cs):∀ w,Own w0 S w l→Cells w ⟨a.getD 0,off,none⟩ cs:=fun w ho j v hv=>by
 subst hcs
 rw [Addr.add_lit]
 rw [List.getElem?_take] at hv
 split at hv
 ·exact ho.rowCell i hi (by simpa using hv)
 ·cases hv
theorem ZH (i:Nat) {b off k:Nat} {cs vs:List Value} {t:TypeId} (hi:l[i]? = some (.blk b cs t)) (hcs:(cs.drop off).take k=vs):∀ w,Own w0 S w l→Cells w ⟨b,off,none⟩ vs:=fun w ho j v hv=>by
 subst hcs
 rw [Addr.add_lit]
 rw [List.getElem?_take] at hv
 split at hv
 ·exact ho.blkCell i hi (by simpa using hv)
 ·cases hv
theorem Zi {t:TypeId} {x:Operand} {ad:Addr} {v:Value} {d:TypeDesc} (hu:P.underlying t=some d) (hd:Zei d=false) (hx:e.ev x=some (.pointer (some ad))) (hc:∀ w,Own w0 S w l→w.cell? ad=some v) :
    Rd P dm n e w0 S l ⟨dst,.load t x,ty,pos,aft,gd⟩ v :=
  fun a w hs ho=>by
    have h1:=Zca hu w
    rw [hd] at h1
    simp [execOp,hs.ev hx,Instr.loadAt,Instr.sureAddr,loadVar,h1,load,Sem.run,hc w ho]
theorem Zr {t:TypeId} {x:Operand} {ad:Addr} {vs:List Value} {d:TypeDesc} {z:Value} {size bytes:Nat} (hu:P.underlying t=some d) (hd:Zei d=true) (ht:TyF P t z size bytes) (hx:e.ev x=some (.pointer (some ad)))
    (hc:∀ w,Own w0 S w l→Cells w ad vs) (hl:vs.length=size):Rd P dm n e w0 S l ⟨dst,.load t x,ty,pos,aft,gd⟩ (.agg vs.toArray) :=
  fun a w hs ho=>by
    have h1:=Zca hu w
    rw [hd] at h1
    have h2:=run_loadCells_list (P:=P) w ad vs (hc w ho)
    rw [hl] at h2
    simp [execOp,hs.ev hx,Instr.loadAt,Instr.sureAddr,loadVar,h1,ht.runSize,h2]
theorem Zd {t:TypeId} {f:Nat} {x:Operand} {ad ad':Addr} (hx:e.ev x=some (.pointer (some ad))) (hf:∀ w,(Instr.fieldAt t (.pointer (some ad)) f).run P w=.ok (.pointer (some ad')) w) :
    Rd P dm n e w0 S l ⟨dst,.fieldAddr t x f,ty,pos,aft,gd⟩ (.pointer (some ad')) :=
  fun a w hs ho=>by simp [execOp,hs.ev hx,hf]
theorem Zde {t:TypeId} {f:Nat} {x:Operand} {v v':Value} (hx:e.ev x=some v) (hf:∀ w,(Instr.field t v f).run P w=.ok v' w) :
    Rd P dm n e w0 S l ⟨dst,.field t x f,ty,pos,aft,gd⟩ v' :=
  fun a w hs ho=>by simp [execOp,hs.ev hx,hf]
theorem run_indexAt {t E:TypeId} {z:Value} {size bytes:Nat} (hu:P.underlying t=some (.slice E)) (ht:TyF P E z size bytes) (ad:Addr) (m cap:Nat) (k:IntKind) (i:Int) (h0:0≤i) (h1:i<m) (w:World) :
    (Instr.indexAt t (.slice (some ad) m cap) (.int k i)).run P w=.ok (.pointer (some (ad.add (i.toNat * size)))) w:=by
  simp [Instr.indexAt,asIntOf,run_underlying hu,h0,h1,ht.runSize]
theorem Zlt {t E:TypeId} {z:Value} {size bytes:Nat} {x y:Operand} {ad:Addr} {m cap:Nat} {k:IntKind} {i:Int} (hu:P.underlying t=some (.slice E)) (ht:TyF P E z size bytes) (hx:e.ev x=some (.slice (some ad) m cap)) (hy:e.ev y=some (.int k i)) (h0:0≤i) (h1:i<m) :
    Rd P dm n e w0 S l ⟨dst,.indexAddr t x y,ty,pos,aft,gd⟩ (.pointer (some (ad.add (i.toNat * size)))) :=
  fun a w hs ho=>by simp [execOp,hs.ev hx,hs.ev hy,run_indexAt hu ht ad m cap k i h0 h1]
theorem Zel {t E:TypeId} {z:Value} {bytes:Nat} {x y:Operand} {ad:Addr} {m cap:Nat} {k:IntKind} {i:Int} (hu:P.underlying t=some (.slice E)) (ht:TyF P E z 1 bytes) (hx:e.ev x=some (.slice (some ad) m cap)) (hy:e.ev y=some (.int k i)) (h0:0≤i) (h1:i<m) :
    Rd P dm n e w0 S l ⟨dst,.indexAddr t x y,ty,pos,aft,gd⟩ (.pointer (some (ad.add i.toNat))):=by
  have h:=Zlt (dst:=dst) (ty:=ty) (pos:=pos) (aft:=aft) (gd:=gd) (dm:=dm) (n:=n) (w0:=w0) (S:=S) (l:=l) hu ht hx hy h0 h1
  rwa [Nat.mul_one] at h
theorem YT (j:Nat) {t E E':TypeId} {z:Value} {size bytes sz:Nat} {x y:Operand} {r:Option Nat} {m cap:Nat} {xs:List Value} {k:IntKind} {i:Int} (hj:l[j]? = some (.row E' sz r m cap xs)) (hu:P.underlying t=some (.slice E)) (ht:TyF P E z size bytes) (hx:e.ev x=some (.slice (rowA r) m cap)) (hy:e.ev y=some (.int k i)) (h0:0≤i) (h1:i<m) :
    Rd P dm n e w0 S l ⟨dst,.indexAddr t x y,ty,pos,aft,gd⟩ (.pointer (some ⟨r.getD 0,i.toNat * size,none⟩)) :=
  fun a w hs ho=>by
    cases r with
    | none =>
      have:=(ho.holds _ (List.mem_of_getElem? hj)).2.1
      omega
    | some g =>
      have h2:=run_indexAt hu ht ⟨g,0,none⟩ m cap k i h0 h1 w
      rw [Addr.add_lit,Nat.zero_add] at h2
      simp [execOp,hs.ev hx,hs.ev hy,rowA,h2]
theorem Ys (j:Nat) {t E E':TypeId} {z:Value} {bytes sz:Nat} {x y:Operand} {r:Option Nat} {m cap:Nat} {xs:List Value} {k:IntKind} {i:Int} (hj:l[j]? = some (.row E' sz r m cap xs)) (hu:P.underlying t=some (.slice E)) (ht:TyF P E z 1 bytes) (hx:e.ev x=some (.slice (rowA r) m cap)) (hy:e.ev y=some (.int k i)) (h0:0≤i) (h1:i<m) :
    Rd P dm n e w0 S l ⟨dst,.indexAddr t x y,ty,pos,aft,gd⟩ (.pointer (some ⟨r.getD 0,i.toNat,none⟩)):=by
  have h:=YT (dst:=dst) (ty:=ty) (pos:=pos) (aft:=aft) (gd:=gd) (dm:=dm) (n:=n) (w0:=w0) (S:=S) j hj hu ht hx hy h0 h1
  rwa [Nat.mul_one] at h
theorem ZA {E t:TypeId} {x:Operand} {a:Option Addr} {m cap:Nat} (hu:P.underlying t=some (.slice E)) (hx:e.ev x=some (.slice a m cap)) :
    Rd P dm n e w0 S l ⟨dst,.call { callee:=.builtin .len,args:=#[x],argTypes:=#[t] },ty,pos,aft,gd⟩ (.int .i64 m) :=
  fun ac w hs ho=>by simp [execOp,resolve,invoke,builtin,Builtin.len_,run_underlying hu,hs.ev hx,goInt]
theorem Xp {t:TypeId} {x:Operand} {s:ByteArray} (hu:P.underlying t=some .string) (hx:e.ev x=some (.string s)) :
    Rd P dm n e w0 S l ⟨dst,.call { callee:=.builtin .len,args:=#[x],argTypes:=#[t] },ty,pos,aft,gd⟩ (.int .i64 s.size) :=
  fun ac w hs ho=>by simp [execOp,resolve,invoke,builtin,Builtin.len_,run_underlying hu,hs.ev hx,goInt]
def Env.evp (e:Env):List (Nat × Operand)→Option (List (Nat × Value))
  | []=>some []
  | (i,x)::xs=>match e.ev x with
    | some v=>match e.evp xs with
      | some vs=>some ((i,v)::vs)
      | none=>none
    | none=>none
theorem Sat.evp {a:Act} (h:Sat dm n a e):∀ {xs:List (Nat × Operand)} {vs:List (Nat × Value)},e.evp xs=some vs→xs.map (fun (i,x)=>(i,a.eval x))=vs
  | [],vs,hx=>by simp [Env.evp] at hx; simp [hx]
  | (i,x)::xs,vs,hx=>by
    simp only [Env.evp] at hx
    split at hx
    · rename_i v hv
      split at hx
      · rename_i us hu
        simp at hx; subst hx
        simp [h.ev hv,h.evp hu]
      · cases hx
    · cases hx
theorem ZT {t:TypeId} {ps:List (Nat × Operand)} {vs:List (Nat × Value)} {v:Value} (hp:e.evp ps=some vs) (hb:∀ w,(Instr.build t vs.toArray).run P w=.ok v w) :
    Rd P dm n e w0 S l ⟨dst,.build t ps.toArray,ty,pos,aft,gd⟩ v :=
  fun a w hs ho=>by
    have:=hs.evp hp
    simp only [execOp,List.map_toArray,Sem.run_bind]
    rw [this,hb]; rfl
theorem Ws {fn:Fn} {fs cs:List Operand} {vf vc:List Value} (hf:e.evs fs=some vf) (hc:e.evs cs=some vc):Rd P dm n e w0 S l ⟨dst,.makeFunc fn fs.toArray cs.toArray,ty,pos,aft,gd⟩ (.func fn vf.toArray vc.toArray) :=
  fun a w hs ho=>by simp [execOp,Instr.makeFunc,hs.evs hf,hs.evs hc]
end
theorem row_own {w:World} {e:TypeId} {size:Nat} {a:Option Nat} {n cap:Nat} {xs:List Value} (h:HL.holds w (.row e size a n cap xs)):w.ownsRow 0 e size (.slice (rowA a) n cap) n xs:=by
 obtain ⟨h1,h2⟩:=h
 refine ⟨h1,?_⟩
 cases a with
 | none=>obtain ⟨rfl,rfl⟩:=h2; exact .inl ⟨rfl,rfl⟩
 | some g=>obtain ⟨cur,h3,h4,h5,h6,h7⟩:=h2; exact .inr ⟨g,cap,cur,rfl,Nat.zero_le _,h3,h4,h5,h6,h7⟩
theorem own_row {w:World} {e:TypeId} {size:Nat} {v:Value} {n:Nat} {xs:List Value} {base:Nat} (h:w.ownsRow base e size v n xs):∃ a cap,v=.slice (rowA a) n cap∧HL.holds w (.row e size a n cap xs)∧v.ownBlock=a:=by
 obtain ⟨h1,h2⟩:=h
 rcases h2 with ⟨rfl,rfl⟩ | ⟨g,cap,cur,rfl,_,h3,h4,h5,h6,h7⟩
 ·exact ⟨none,0,rfl,⟨h1,rfl,rfl⟩,rfl⟩
 ·exact ⟨some g,cap,rfl,⟨h1,cur,h3,h4,h5,h6,h7⟩,rfl⟩
section
variable {dm:List Deferred} {P:Program} {n:Nat} {Q:Exit→Act→World→Prop} {K:Act→World→Prop} {e:Env} {w0:World} {S:List Nat} {l:List HL} {d:Nat} {dst:Option Tmp} {ty:TypeId} {pos:String} {aft:Array Edge} {gd:Option (Nat × Bool)}
theorem XD {o:Oper} {a:Act} {w w':World} {v:Value} (h:(execOp a.eval o).run P w=.ok (.value v) w') (k:K (a.put o.dst v) w'):Oper.wp P o a w K Q:=by
 unfold Oper.wp; rw [h,Oper.upon_value]; exact k
theorem Zbf {o:Oper} {a:Act} {w w':World} (hd:o.dst=none) (h:(execOp a.eval o).run P w=.ok .skip w') (k:K a w'):Oper.wp P o a w K Q:=by
 unfold Oper.wp; rw [h,Oper.upon_skip,hd]; exact k
theorem Xx {a b:Nat} (h:Nat.ble b a=false):a<b:=by
 rcases Nat.lt_or_ge a b with h' | h'
 ·exact h'
 ·rw [Nat.ble_eq_true_of_le h'] at h; cases h
theorem run_box (t:TypeId) (v:Value) (w:World):(Instr.box t v).run P w=.ok (.pointer (some ⟨w.heap.size,0,none⟩)) (w.alloc (.cells v.cells t)):=rfl
theorem Zm {op:Op} {v:Value} (hd:Nat.ble n d=false) (hr:Rd P dm n e w0 S l ⟨some d,op,ty,pos,aft,gd⟩ v) (k:GK dm n K ((d,v)::e) w0 S l) :
    GK dm n (fun a w=>Oper.wp P ⟨some d,op,ty,pos,aft,gd⟩ a w K Q) e w0 S l:=fun a w hs ho=>by
  exact XD (hr a w hs ho) (k _ _ (hs.put (Xx hd) v) ho)
theorem Z6 {t:TypeId} {x:Operand} {v:Value} {cs:List Value} (hd:Nat.ble n d=false) (hx:e.ev x=some v) (hcs:v.cells.toList=cs)
    (k:∀ b,GK dm n K ((d,.pointer (some ⟨b,0,none⟩))::e) w0 S (.blk b cs t::l)) :
    GK dm n (fun a w=>Oper.wp P ⟨some d,.box t x,ty,pos,aft,gd⟩ a w K Q) e w0 S l:=fun a w hs ho=>by
  have hr:(execOp a.eval ⟨some d,.box t x,ty,pos,aft,gd⟩).run P w=.ok (.value (.pointer (some ⟨w.heap.size,0,none⟩))) (w.alloc (.cells cs.toArray t)):=by
    subst hcs
    simp only [execOp,hs.ev hx,Sem.run_bind,run_box,Result.andThen_ok]; simp
  exact XD hr (k _ _ _ (hs.put (Xx hd) _) (ho.newBlk cs t))
theorem ZU {t:TypeId} {z:Value} {size bytes:Nat} {cs:List Value} (ht:TyF P t z size bytes) (hd:Nat.ble n d=false) (hcs:z.cells.toList=cs)
    (k:∀ b,GK dm n K ((d,.pointer (some ⟨b,0,none⟩))::e) w0 S (.blk b cs t::l)) :
    GK dm n (fun a w=>Oper.wp P ⟨some d,.alloc t,ty,pos,aft,gd⟩ a w K Q) e w0 S l:=fun a w hs ho=>by
  have hr:(execOp a.eval ⟨some d,.alloc t,ty,pos,aft,gd⟩).run P w=.ok (.value (.pointer (some ⟨w.heap.size,0,none⟩))) (w.alloc (.cells cs.toArray t)):=by
    subst hcs
    simp only [execOp,Instr.alloc,Sem.run_bind,ht.runZero,Result.andThen_ok]
    show Result.ok (Next.value (.pointer (some ⟨w.heap.size,0,none⟩))) (w.alloc (.cells z.cells t))=_
    simp
  exact XD hr (k _ _ _ (hs.put (Xx hd) _) (ho.newBlk cs t))
theorem Zdf (w:World) (cs:List Value) (E:TypeId) (m sz:Nat) (hlen:cs.length=m * sz) (hm:m≤maxLen):HL.holds (w.alloc (.cells cs.toArray E)) (.row E sz (some w.heap.size) m m cs):=by
 refine ⟨hlen,cs.toArray,heap_alloc_new w _,Nat.le_refl _,hm,by simpa using hlen,?_⟩
 simp [← hlen]
theorem ZQ {t E:TypeId} {m sz:Nat} {ps:List (Nat × Operand)} {vs:List (Nat × Value)} {cs:List Value} (hd:Nat.ble n d=false) (hp:e.evp ps=some vs)
    (hb:∀ w,(Instr.buildSlice t m vs.toArray).run P w=.ok (.slice (some ⟨w.heap.size,0,none⟩) m m) (w.alloc (.cells cs.toArray E))) (hlen:Nat.beq cs.length (m * sz)=true) (hm:Nat.ble m 4096=true)
    (k:∀ b,GK dm n K ((d,.slice (some ⟨b,0,none⟩) m m)::e) w0 S (.row E sz (some b) m m cs::l)) :
    GK dm n (fun a w=>Oper.wp P ⟨some d,.buildSlice t m ps.toArray,ty,pos,aft,gd⟩ a w K Q) e w0 S l:=fun a w hs ho=>by
  have hr:(execOp a.eval ⟨some d,.buildSlice t m ps.toArray,ty,pos,aft,gd⟩).run P w=.ok (.value (.slice (some ⟨w.heap.size,0,none⟩) m m)) (w.alloc (.cells cs.toArray E)):=by
    have:=hs.evp hp
    simp only [execOp,List.map_toArray,Sem.run_bind]
    rw [this,hb]; rfl
  have hl:cs.length=m * sz:=Nat.eq_of_beq_eq_true hlen
  have hm':m≤4096:=Nat.le_of_ble_eq_true hm
  exact XD hr (k _ _ _ (hs.put (Xx hd) _) (ho.alloc _ _ rfl (Zdf w cs E m sz hl (by unfold maxLen; omega))))
theorem Zal {t E:TypeId} {z:Value} {size bytes:Nat} {x y:Operand} {k1 k2:IntKind} {i1 i2:Int} (m:Nat) (hu:P.underlying t=some (.slice E)) (ht:TyF P E z size bytes) (hd:Nat.ble n d=false)
    (hx:e.ev x=some (.int k1 i1)) (hy:e.ev y=some (.int k2 i2)) (h1:i1=m) (h2:i2=m) (hb:bytes * m≤281474976710656) (hm:m≤9223372036854775807)
    (k:∀ b,GK dm n K ((d,.slice (rowA (some b)) m m)::e) w0 S (.row E size (some b) m m (madeCells z.cells (m * size)).toList::l)) :
    GK dm n (fun a w=>Oper.wp P ⟨some d,.makeSlice t x y,ty,pos,aft,gd⟩ a w K Q) e w0 S l:=fun a w hs ho=>by
  obtain ⟨i,hi1,hi2,hi3,hi4⟩:=ht.ex
  subst hi3; subst hi4; subst h1; subst h2
  have hr:=run_make (P:=P) w t E i z hu hi1 hi2 k1 k2 m m (by omega) (Int.le_refl _) (by rw [← Int.natCast_mul]; omega) (by omega)
  have hr2:(execOp a.eval ⟨some d,.makeSlice t x y,ty,pos,aft,gd⟩).run P w=.ok (.value (.slice (some ⟨w.heap.size,0,none⟩) m m)) (w.alloc (.cells (madeCells z.cells (m * i.size)) E)):=by
    simp only [Int.toNat_natCast] at hr
    simp [execOp,hs.ev hx,hs.ev hy,hr]
  have hh:=Zdf w (madeCells z.cells (m * i.size)).toList E m i.size (by simp [size_madeCells]) (by unfold maxLen; omega)
  simp only [Array.toArray_toList] at hh
  exact XD hr2 (k _ _ _ (hs.put (Xx hd) _) (ho.alloc _ _ rfl hh))
theorem Zgz (z:Value) (hz:z.cells=#[z]) (m:Nat):(madeCells z.cells (m * 1)).toList=List.replicate m z:=by
 rw [hz]
 apply List.ext_getElem
 ·simp [size_madeCells]
 ·intro i h1 h2
  simp [madeCells,Nat.mod_one]
theorem Zdg {t:TypeId} {z:Value} {size bytes:Nat} (ht:TyF P t z size bytes) (hsz:size=1) {b off:Nat} {v u:Value} {w:World} (hv:v.oneCell'=true) (hc:w.cell? ⟨b,off,none⟩=some u) (hf:w.frozen? ⟨b,off,none⟩=false) :
    (Instr.storeAt t (.pointer (some ⟨b,off,none⟩)) v).run P w=.ok () (w.setCell ⟨b,off,none⟩ v):=by
  subst hsz
  have hcs:v.cells=#[v]:=by cases v <;> simp [Value.oneCell',Value.cells] at * 
  have h0:(⟨b,off,none⟩:Addr).add 0=⟨b,off,none⟩:=by simp [Addr.add]
  have hst:(store ⟨b,off,none⟩ v).run P w=.ok () (w.setCell ⟨b,off,none⟩ v):=by
    cases v <;> simp [Value.oneCell'] at hv <;> simp [store,Sem.run,hc,hf]
  simp [Instr.storeAt,Instr.sureAddr,storeVar,hcs,ht.runSize,storeCells,h0,hst]
theorem Own.frozenBlk {w:World} (ho:Own w0 S w l) (i:Nat) {b off:Nat} {cs:List Value} {t:TypeId} (hi:l[i]? = some (.blk b cs t)):w.frozen? ⟨b,off,none⟩=false:=by
 have:=ho.holds _ (List.mem_of_getElem? hi)
 simp only [HL.holds] at this
 simp [World.frozen?,this]
theorem Yc (i:Nat) {t t':TypeId} {z:Value} {bytes:Nat} {x y:Operand} {b off:Nat} {cs cs':List Value} {v:Value} (ht:TyF P t z 1 bytes) (hx:e.ev x=some (.pointer (some ⟨b,off,none⟩))) (hy:e.ev y=some v)
    (hv:v.oneCell'=true) (hi:l[i]? = some (.blk b cs t')) (hoff:Nat.ble cs.length off=false) (hcs:cs.set off v=cs') {l':List HL} (hl':l.set i (.blk b cs' t')=l') (k:GK dm n K e w0 S l') :
    GK dm n (fun a w=>Oper.wp P ⟨none,.store t x y,ty,pos,aft,gd⟩ a w K Q) e w0 S l:=fun a w hs ho=>by
  subst hl'; subst hcs
  have hoff':off<cs.length:=Xx hoff
  have hr:=Zdg (P:=P) ht rfl hv (ho.blkCell i hi (List.getElem?_eq_getElem hoff')) (ho.frozenBlk i hi)
  have hr2:(execOp a.eval ⟨none,.store t x y,ty,pos,aft,gd⟩).run P w=.ok .skip (w.setCell ⟨b,off,none⟩ v):=by
    simp [execOp,hs.ev hx,hs.ev hy,hr]
  exact Zbf rfl hr2 (k _ _ hs (ho.storeBlk hi v))
theorem Own.storeRow {w:World} (h:Own w0 S w l) {i:Nat} {E:TypeId} {sz:Nat} {r:Option Nat} {m cap off:Nat} {xs:List Value} (hi:l[i]? = some (.row E sz r m cap xs)) (hoff:off<xs.length) (u:Value) :
    w.frozen? ⟨r.getD 0,off,none⟩=false∧Own w0 S (w.setCell ⟨r.getD 0,off,none⟩ u) (l.set i (.row E sz r m cap (xs.set off u))):=by
  have hb:=h.holds _ (List.mem_of_getElem? hi)
  obtain ⟨h1,h2⟩:=hb
  cases r with
  | none=>obtain ⟨rfl,_⟩:=h2; simp at h1; subst h1; simp at hoff
  | some g =>
    obtain ⟨cur,h3,h4,h5,h6,h7⟩:=h2
    have hlt:=lt_size h3
    refine ⟨by simp [World.frozen?,h3],h.turn hi rfl rfl rfl (by simp [World.setCell]) (fun k hk hne=>Below.heap_setCell _ _ _ _ (fun e=>hne (by simp [HL.block,e]))) ?_ (fun k hk=>.inl hk)⟩
    have h':w.heap[g]=.cells cur E (0,0):=by simpa [Array.getElem?_eq_getElem hlt] using h3
    refine ⟨by simpa using h1,cur.setIfInBounds off u,?_,h4,h5,by simpa using h6,?_⟩
    · show (w.heap.modify g _)[g]? = _
      rw [Array.getElem?_eq_getElem (by simpa using hlt),Array.getElem_modify_self,h']
      rfl
    · rw [Array.toList_setIfInBounds,List.take_set,h7]
theorem Zfm (i:Nat) {t E:TypeId} {z:Value} {bytes sz:Nat} {x y:Operand} {r:Option Nat} {m cap off:Nat} {xs:List Value} {v:Value} (ht:TyF P t z 1 bytes) (hx:e.ev x=some (.pointer (some ⟨r.getD 0,off,none⟩))) (hy:e.ev y=some v)
    (hv:v.oneCell'=true) (hi:l[i]? = some (.row E sz r m cap xs)) (hoff:off<xs.length) {l':List HL} (hl':l.set i (.row E sz r m cap (xs.set off v))=l') (k:GK dm n K e w0 S l') :
    GK dm n (fun a w=>Oper.wp P ⟨none,.store t x y,ty,pos,aft,gd⟩ a w K Q) e w0 S l:=fun a w hs ho=>by
  subst hl'
  obtain ⟨hf,ho'⟩:=ho.storeRow hi hoff v
  have hr:=Zdg (P:=P) ht rfl hv (ho.rowCell i hi (List.getElem?_eq_getElem hoff)) hf
  have hr2:(execOp a.eval ⟨none,.store t x y,ty,pos,aft,gd⟩).run P w=.ok .skip (w.setCell ⟨r.getD 0,off,none⟩ v):=by
    simp [execOp,hs.ev hx,hs.ev hy,hr]
  exact Zbf rfl hr2 (k _ _ hs ho')
theorem Zdh {t t':TypeId} {z:Value} {size bytes:Nat} (ht:TyF P t z size bytes) {g:Nat} {old cells:Array Value} {w:World} (hg:w.heap[g]? = some (.cells old t' (0,0))) (hi:size=cells.size) (ho:old.size=cells.size) (h1:cells.all (·.oneCell')=true) :
    (storeVar t ⟨g,0,none⟩ (.agg cells)).run P w=.ok () (w.setRow g cells):=by
  obtain ⟨i,hi1,hi2,hi3,hi4⟩:=ht.ex
  exact run_storeVar_row w g t' t old cells hg (by simp [hi1,hi3,hi]) ho h1
theorem Zz (i:Nat) {t t':TypeId} {z:Value} {size bytes:Nat} {x y:Operand} {b:Nat} {cs vs:List Value} (ht:TyF P t z size bytes) (hx:e.ev x=some (.pointer (some ⟨b,0,none⟩))) (hy:e.ev y=some (.agg vs.toArray))
    (hv:vs.all (·.oneCell')=true) (hi:l[i]? = some (.blk b cs t')) (hl:Nat.beq size vs.length=true) (hl2:Nat.beq cs.length vs.length=true) {l':List HL} (hl3:l.set i (.blk b vs t')=l') (k:GK dm n K e w0 S l') :
    GK dm n (fun a w=>Oper.wp P ⟨none,.store t x y,ty,pos,aft,gd⟩ a w K Q) e w0 S l:=fun a w hs ho=>by
  subst hl3
  have hl':=Nat.eq_of_beq_eq_true hl
  have hl2':=Nat.eq_of_beq_eq_true hl2
  have hb:=ho.holds _ (List.mem_of_getElem? hi)
  simp only [HL.holds] at hb
  have hr:=Zdh (P:=P) ht (cells:=vs.toArray) hb (by simpa using hl') (by simpa using hl2') (by simpa using hv)
  have hr2:(execOp a.eval ⟨none,.store t x y,ty,pos,aft,gd⟩).run P w=.ok .skip (w.setRow b vs.toArray):=by
    simp [execOp,hs.ev hx,hs.ev hy,Instr.storeAt,Instr.sureAddr,hr]
  refine Zbf rfl hr2 (k _ _ hs (ho.turn hi rfl rfl rfl (by simp) (fun k hk hne=>setRow_other w b k _ (fun e=>hne (by simp [HL.block,e]))) ?_ (fun k hk=>.inl hk)))
  exact setRow_heap w b cs.toArray vs.toArray t' (0,0) hb
theorem Zg0 {t ty E:TypeId} {z:Value} {size bytes:Nat} (hu:P.underlying t=some (.slice E)) (ht:TyF P E z size bytes) (hzs:z.cells.size=size) (hsz:0<size) {w:World} {r:Option Nat} {m cap:Nat} {xs:List Value} (hh:HL.holds w (.row E size r m cap xs))
    {ad:Addr} {mm c:Nat} {news:List Value} (hn:news.length=mm * size) (hc:Cells w ad news) (h1:∀ u∈news,u.oneCell'=true) (hb:(m+mm) * bytes≤140737488355328) (h63:m+mm≤9223372036854775807) :
    ∃ r' cap' w',(Builtin.append_ #[t,t] ty #[.slice (rowA r) m cap,.slice (some ad) mm c]).run P w=.ok (.slice (rowA r') (m+mm) cap') w'∧HL.holds w' (.row E size r' (m+mm) cap' (xs++news))∧w.grownBy w' r∧(∀ b,r'=some b→r=some b∨w.heap.size≤b):=by
  obtain ⟨ii,hi1,hi2,hi3,hi4⟩:=ht.ex
  have h63':m+mm≤maxLen:=by unfold maxLen; omega
  have hh0:=hh
  obtain ⟨hl,h2⟩:=hh
  cases r with
  | none =>
    obtain ⟨rfl,rfl⟩:=h2
    have hx:xs=[]:=List.eq_nil_of_length_eq_zero (by simpa using hl)
    subst hx
    obtain ⟨v',w',hr,h2,h3,h4⟩:=run_append_own (P:=P) w w.heap.size t ty E ii z size bytes hu hi1 hi2 hi3 hi4 hzs hsz (.slice none 0 0) 0 [] (World.ownsRow_nil _ _ _ _) ad mm c news hn hc h1 h63' hb (Nat.le_refl _)
    have h5:=h2.lt
    obtain ⟨r',cap',rfl,h6,h7⟩:=own_row h2
    refine ⟨r',cap',w',hr,h6,h3,fun b hb=>.inr ?_⟩
    exact (h5 b (h7.trans hb)).1
  | some g =>
    obtain ⟨cur,hg,hnc,hcm,hcs,htake⟩:=h2
    subst hi3
    by_cases hroom:m+mm≤cap
    · have hfit:m * ii.size+news.length≤cur.size:=by rw [hn,hcs,← Nat.add_mul]; exact Nat.mul_le_mul_right _ hroom
      have hr:=run_append_room (P:=P) w t ty E ii hu hi1 g m cap cur hg ad mm c news hn hc h1 hroom hfit
      refine ⟨some g,cap,_,hr,⟨by rw [List.length_append,hl,hn,Nat.add_mul],_,setRow_heap w g cur _ E _ hg,hroom,hcm,?_,?_⟩,⟨rfl,rfl,rfl,by simp,fun k hk hne=>setRow_other w g k _ (fun e=>hne (by simp [e]))⟩,fun b hb=>.inl hb⟩
      · simp only [List.size_toArray,List.length_append,List.length_take,List.length_drop,Array.length_toList]; omega
      · rw [htake,Nat.add_mul,← hl,← hn,← List.length_append]; exact List.take_left
    · have hold:=row_own hh0
      have holds:∀ j u,xs[j]? = some u→w.cell? ((⟨g,0,none⟩:Addr).add j)=some u:=hold.cells (g:=g) rfl
      have hr:=run_append_grow (P:=P) w t ty E ii z hu hi1 hi2 ⟨g,0,none⟩ m cap xs hl holds ad mm c news hn hc (by omega) (by omega) (growslice_fits (by omega) (by rw [hi4]; exact hb))
      have hge:=grownCap_ge w (m+mm) cap E
      have hcm2:=grownCap_le_maxLen w (m+mm) cap E h63'
      refine ⟨some w.heap.size,_,_,hr,⟨by rw [List.length_append,hl,hn,Nat.add_mul],_,heap_alloc_new w.drew _,hge,hcm2,?_,?_⟩,⟨rfl,rfl,rfl,by simp,fun k hk _=>Below.heap_alloc w.drew _ k hk⟩,fun b hb=>.inr (by simp at hb; omega)⟩
      · simp only [Array.size_append,List.size_toArray,size_zeroCells,hzs,hl,hn,← Nat.add_mul]
        congr 1; omega
      · simp only [Array.toList_append,List.append_assoc]
        rw [← List.append_assoc,Nat.add_mul,← hl,← hn,← List.length_append]
        exact List.take_left
theorem Zoh (i:Nat) {t E:TypeId} {z:Value} {size bytes:Nat} {x y:Operand} {r:Option Nat} {m cap:Nat} {xs:List Value} {ad:Addr} {mm c:Nat} {news:List Value} (hu:P.underlying t=some (.slice E)) (ht:TyF P E z size bytes)
    (hzs:z.cells.size=size) (hsz:0<size) (hd:Nat.ble n d=false) (hx:e.ev x=some (.slice (rowA r) m cap)) (hy:e.ev y=some (.slice (some ad) mm c)) (hi:l[i]? = some (.row E size r m cap xs))
    (hn:news.length=mm * size) (hc:∀ w,Own w0 S w l→Cells w ad news) (h1:∀ u∈news,u.oneCell'=true) (hb:(m+mm) * bytes≤140737488355328) (h63:m+mm≤9223372036854775807)
    (k:∀ r' cap',GK dm n K ((d,.slice (rowA r') (m+mm) cap')::e) w0 S (l.set i (.row E size r' (m+mm) cap' (xs++news)))) :
    GK dm n (fun a w=>Oper.wp P ⟨some d,.call { callee:=.builtin .append,args:=#[x,y],argTypes:=#[t,t] },ty,pos,aft,gd⟩ a w K Q) e w0 S l:=fun a w hs ho=>by
  have hh:=ho.holds _ (List.mem_of_getElem? hi)
  obtain ⟨r',cap',w',hr,h2,h3,h4⟩:=Zg0 (ty:=ty) (c:=c) hu ht hzs hsz hh hn (hc w ho) h1 hb h63
  have hr2:(execOp a.eval ⟨some d,.call { callee:=.builtin .append,args:=#[x,y],argTypes:=#[t,t] },ty,pos,aft,gd⟩).run P w=.ok (.value (.slice (rowA r') (m+mm) cap')) w':=by
    simp [execOp,resolve,invoke,builtin,hs.ev hx,hs.ev hy,hr]
  exact XD hr2 (k r' cap' _ _ (hs.put (Xx hd) _) (ho.turn hi h3.os h3.tape h3.output h3.size (fun b hb1 hb2=>h3.block b hb1 (fun e=>hb2 (by simp [HL.block,← e]))) h2 (fun b hb=>h4 b hb)))
theorem Zem (i:Nat) {t E:TypeId} {z:Value} {size bytes:Nat} {x y:Operand} {r:Option Nat} {m cap:Nat} {xs:List Value} {ad:Addr} {mm c:Nat} {news:List Value} (hu:P.underlying t=some (.slice E)) (ht:TyF P E z size bytes)
    (hzs:z.cells.size=size) (hsz:0<size) (hd:Nat.ble n d=false) (hx:e.ev x=some (.slice (rowA r) m cap)) (hy:e.ev y=some (.slice (some ad) mm c)) (hi:l[i]? = some (.row E size r m cap xs))
    (hn:news.length=mm * size) (hc:∀ w,Own w0 S w l→Cells w ad news) (h1:∀ u∈news,u.oneCell'=true) (hb:(m+mm) * bytes≤140737488355328) (h63:m+mm≤9223372036854775807) {lf:HL→List HL} (hl':∀ y,l.set i y=lf y)
    (k:∀ r' cap',GK dm n K ((d,.slice (rowA r') (m+mm) cap')::e) w0 S (lf (.row E size r' (m+mm) cap' (xs++news)))) :
    GK dm n (fun a w=>Oper.wp P ⟨some d,.call { callee:=.builtin .append,args:=#[x,y],argTypes:=#[t,t] },ty,pos,aft,gd⟩ a w K Q) e w0 S l :=
  Zoh i hu ht hzs hsz hd hx hy hi hn hc h1 hb h63 fun r' cap'=>by rw [hl']; exact k r' cap'
theorem Yb (i i2:Nat) {t E E2:TypeId} {z:Value} {size bytes:Nat} {x y:Operand} {r:Option Nat} {m cap:Nat} {xs:List Value} {g mm c:Nat} {news:List Value} (hu:P.underlying t=some (.slice E)) (ht:TyF P E z size bytes)
    (hzs:z.cells.size=size) (hsz:0<size) (hd:Nat.ble n d=false) (hx:e.ev x=some (.slice (rowA r) m cap)) (hy:e.ev y=some (.slice (some ⟨g,0,none⟩) mm c)) (hi:l[i]? = some (.row E size r m cap xs)) (hi2:l[i2]? = some (.row E2 size (some g) mm c news))
    (h1:∀ u∈news,u.oneCell'=true) (hb:(m+mm) * bytes≤140737488355328) (h63:m+mm≤9223372036854775807) {lf:HL→List HL} (hl':∀ y,l.set i y=lf y)
    (k:∀ r' cap',GK dm n K ((d,.slice (rowA r') (m+mm) cap')::e) w0 S (lf (.row E size r' (m+mm) cap' (xs++news)))) :
    GK dm n (fun a w=>Oper.wp P ⟨some d,.call { callee:=.builtin .append,args:=#[x,y],argTypes:=#[t,t] },ty,pos,aft,gd⟩ a w K Q) e w0 S l:=fun a w hs ho=>by
  have hl:=(ho.holds _ (List.mem_of_getElem? hi2)).1
  refine Zem i hu ht hzs hsz hd hx hy hi hl (fun w ho j v hv=>?_) h1 hb h63 hl' k a w hs ho
  rw [Addr.add_lit,Nat.zero_add]
  exact ho.rowCell (a:=some g) i2 hi2 hv
end
def Zgb (w0:World) (S:List Nat) (R:Value→List HL→Prop):Ending→World→Prop :=
  fun e w'=>∃ v l,e=.returned v∧R v l∧Own w0 S w' l
def Sp (P:Program) (f:FuncId) (args:List Value) (w0:World) (S:List Nat) (R:Value→List HL→Prop):Prop:=Calls P f args.toArray w0 (Zgb w0 S R)
theorem Sp.mono {P:Program} {f:FuncId} {args:List Value} {w0:World} {S:List Nat} {R R':Value→List HL→Prop} (h:Sp P f args w0 S R) (hr:∀ v l,R v l→R' v l):Sp P f args w0 S R' :=
  Calls.mono h fun e w' ⟨v,l,h1,h2,h3⟩=>⟨v,l,h1,hr v l h2,h3⟩
def ZV : Nat→List Value→Env
  | _,[]=>[]
  | i,v::vs=>(i,v)::ZV (i+1) vs
theorem Zg1 : ∀ (vs:List Value) (i j:Nat) (v:Value),(ZV i vs).get j=some v→i≤j∧vs[j - i]? = some v
  | [],i,j,v,h=>by simp [ZV,Env.get] at h
  | u::vs,i,j,v,h=>by
    simp only [ZV,Env.get_cons] at h
    split at h
    · rename_i hij; subst hij; simpa using h
    · rename_i hij
      obtain ⟨h1,h2⟩:=Zg1 vs (i+1) j v h
      refine ⟨by omega,?_⟩
      have:j - i=(j - (i+1))+1:=by omega
      rw [this]; simpa using h2
theorem ZC {P:Program} {f:FuncId} {fn:Func} {c:Code} {args:List Value} {w0:World} {S:List Nat} {R:Value→List HL→Prop} {n:Nat} {l:List HL} (hf:P.funcs[f]? = some fn) (hb:fn.body=some c) (hn:fn.ntmps=n) (hle:Nat.ble args.length n=true)
    (ho:Own w0 S w0 l) (h:GK [] n (c.wp P (bodyPost P fn (Zgb w0 S R))) (ZV 0 args) w0 S l):Sp P f args w0 S R:=by
  subst hn
  have hle':args.length≤fn.ntmps:=Nat.le_of_ble_eq_true hle
  refine calls_of_wp hf hb (h _ w0 ⟨?_,rfl,?_⟩ ho)
  · simp; omega
  · intro i v hv
    obtain ⟨_,h2⟩:=Zg1 args 0 i v hv
    simp only [Nat.sub_zero] at h2
    have hlt:i<args.length:=(List.getElem?_eq_some_iff.1 h2).1
    simp [Array.getElem?_append,hlt]
    simpa [List.getElem?_eq_getElem hlt] using h2
section
variable {dm:List Deferred} {P:Program} {n:Nat} {fn:Func} {e:Env} {w0:World} {S:List Nat} {l:List HL} {R:Value→List HL→Prop}
theorem Zkm {t:Tmp} (h:fn.results=#[.tmp t]) {a:Act} {v:Value} (hv:a.tmps[t]? = some v) (P:Program) (w:World):(results fn a.tmps).run P w=.ok v w:=by
 rw [results_tmp h]; simp [Array.getD_eq_getD_getElem?,hv]
theorem Zy {t:Tmp} {v:Value} {x:Exit} (hx:x=.ret∨x=.normal) (hr:fn.results=#[.tmp t]) (hv:e.get t=some v) (idx:List Nat) (hi:idx.Nodup) (h:R v (pick idx l)):GK [] n (bodyPost P fn (Zgb w0 S R) x) e w0 S l :=
  fun a w hs ho=>by
    have hd:=hs.defers
    have h1:=Zkm hr (hs.get t v hv) P w
    rcases hx with rfl | rfl <;> exact ⟨hd,v,h1,v,_,rfl,h,ho.pick idx hi⟩
theorem gx_ret0 {x:Exit} (hx:x=.ret∨x=.normal) (hr:fn.results=#[]) (idx:List Nat) (hi:idx.Nodup) (h:R (.tuple #[]) (pick idx l)):GK [] n (bodyPost P fn (Zgb w0 S R) x) e w0 S l :=
  fun a w hs ho=>by
    have hd:=hs.defers
    have h1:=results_none hr a.tmps P w
    rcases hx with rfl | rfl <;> exact ⟨hd,_,h1,_,_,rfl,h,ho.pick idx hi⟩
theorem Y5 {t u:Tmp} {v v2:Value} {x:Exit} (hx:x=.ret∨x=.normal) (hr:fn.results=#[.tmp t,.tmp u]) (hv:e.get t=some v) (hv2:e.get u=some v2) (idx:List Nat) (hi:idx.Nodup) (h:R (.tuple #[v,v2]) (pick idx l)):GK [] n (bodyPost P fn (Zgb w0 S R) x) e w0 S l :=
  fun a w hs ho=>by
    have hd:=hs.defers
    have h1:=results_tmp2 hr a.tmps P w
    simp only [Array.getD_eq_getD_getElem?,hs.get t v hv,hs.get u v2 hv2,Option.getD_some] at h1
    rcases hx with rfl | rfl <;> exact ⟨hd,_,h1,_,_,rfl,h,ho.pick idx hi⟩
theorem Zpy {v:Value} {x:Exit} (hx:x=.ret∨x=.normal) (hr:∀ a w,Sat [] n a e→Own w0 S w l→(results fn a.tmps).run P w=.ok v w) (idx:List Nat) (hi:idx.Nodup) (h:R v (pick idx l)):GK [] n (bodyPost P fn (Zgb w0 S R) x) e w0 S l :=
  fun a w hs ho=>by
    have hd:=hs.defers
    have h1:=hr a w hs ho
    rcases hx with rfl | rfl <;> exact ⟨hd,_,h1,_,_,rfl,h,ho.pick idx hi⟩
def RVal (P:Program) (dm:List Deferred) (n:Nat) (e:Env) (w0:World) (S:List Nat) (l:List HL) (r:ResultVar) (v:Value):Prop :=
  ∀ a w,Sat dm n a e→Own w0 S w l→(match r with | .tmp t=>pure (a.tmps.getD t undef) | .cell c t=>do loadVar t (← asAddr (a.tmps.getD c undef)):Sem Value).run P w=.ok v w
theorem YU {t:Tmp} {v:Value} (hv:e.get t=some v):RVal P dm n e w0 S l (.tmp t) v:=fun a w hs ho=>by
 simp [Array.getD_eq_getD_getElem?,hs.get t v hv]
theorem YC {c:Tmp} {t:TypeId} {ad:Addr} {vs:List Value} {d:TypeDesc} {z:Value} {size bytes:Nat} (hu:P.underlying t=some d) (hd:Zei d=true) (ht:TyF P t z size bytes) (hv:e.get c=some (.pointer (some ad))) (hl:Nat.beq vs.length size=true) (hc:∀ w,Own w0 S w l→Cells w ad vs) :
    RVal P dm n e w0 S l (.cell c t) (.agg vs.toArray):=fun a w hs ho=>by
  have hl':=Nat.eq_of_beq_eq_true hl
  have h1:=Zca hu w
  rw [hd] at h1
  have h2:=run_loadCells_list (P:=P) w ad vs (hc w ho)
  rw [hl'] at h2
  simp [Array.getD_eq_getD_getElem?,hs.get c _ hv,asAddr,loadVar,h1,ht.runSize,h2]
def Zbg (r:ResultVar) (tmps:Array Value):Sem Value:=match r with | .tmp t=>pure (tmps.getD t undef) | .cell c t=>do loadVar t (← asAddr (tmps.getD c undef))
theorem Zlu {r:ResultVar} (hr:fn.results=#[r]) {tmps:Array Value} {w:World} {v:Value} (h:(Zbg r tmps).run P w=.ok v w):(results fn tmps).run P w=.ok v w:=by
 have:results fn tmps=(do let x ← Zbg r tmps; pure x:Sem Value):=by
  cases r <;> simp [results,hr,Zbg]
 rw [this]; simp [h]
theorem Zlv {r s:ResultVar} (hr:fn.results=#[r,s]) {tmps:Array Value} {w:World} {v u:Value} (h:(Zbg r tmps).run P w=.ok v w) (h2:(Zbg s tmps).run P w=.ok u w):(results fn tmps).run P w=.ok (.tuple #[v,u]) w:=by
 have:results fn tmps=(do let x ← Zbg r tmps; let y ← Zbg s tmps; pure (.tuple #[x,y]):Sem Value):=by
  cases r <;> cases s <;> simp [results,hr,Zbg]
 rw [this]; simp [h,h2]
theorem J2 {r:ResultVar} {v:Value} {x:Exit} (hx:x=.ret∨x=.normal) (hr:fn.results=#[r]) (h1:RVal P [] n e w0 S l r v) (idx:List Nat) (hi:idx.Nodup) (h:R v (pick idx l)):GK [] n (bodyPost P fn (Zgb w0 S R) x) e w0 S l :=
  Zpy hx (fun a w hs ho=>Zlu hr (h1 a w hs ho)) idx hi h
theorem YF {r s:ResultVar} {v u:Value} {x:Exit} (hx:x=.ret∨x=.normal) (hr:fn.results=#[r,s]) (h1:RVal P [] n e w0 S l r v) (h2:RVal P [] n e w0 S l s u) (idx:List Nat) (hi:idx.Nodup) (h:R (.tuple #[v,u]) (pick idx l)):GK [] n (bodyPost P fn (Zgb w0 S R) x) e w0 S l :=
  Zpy hx (fun a w hs ho=>Zlv hr (h1 a w hs ho) (h2 a w hs ho)) idx hi h
end
section
variable {dm:List Deferred} {P:Program} {n:Nat} {Q:Exit→Act→World→Prop} {K:Act→World→Prop} {e:Env} {w0:World} {S:List Nat} {l:List HL} {d:Nat} {dst:Option Tmp} {ty:TypeId} {pos:String} {aft:Array Edge} {gd:Option (Nat × Bool)}
theorem Zlw {o:Oper} {a:Act} {w w':World} {f:FuncId} {args:Array Value} (h:(execOp a.eval o).run P w=.ok (.enter f args) w') (hc:Calls P f args w' fun en w''=>∃ v,en=.returned v∧K (a.put o.dst v) w''):Oper.wp P o a w K Q:=by
 unfold Oper.wp; rw [h,Oper.upon_enter]
 exact Calls.mono hc fun en w'' ⟨v,he,hk⟩=>by subst he; exact hk
theorem VD {F:FuncId} {vf vc:List Value} {x:Operand} {xs:List Operand} {at_:Array TypeId} {vs:List Value} {a:Act} (hs:Sat dm n a e) (hx:e.ev x=some (.func (.func F) vf.toArray vc.toArray)) (hxs:e.evs xs=some vs)
    (hcall:∀ args w,(callFunc F args).run P w=.ok (.enter F args) w) (w:World) :
    (execOp a.eval ⟨dst,.call { callee:=.value x,args:=xs.toArray,argTypes:=at_ },ty,pos,aft,gd⟩).run P w=.ok (.enter F (vf++vs++vc).toArray) w:=by
  have h1:=hs.evs hxs
  simp [execOp,resolve,Deferred.ofValue,invoke,hs.ev hx,h1,hcall]
theorem Own.called {w w1:World} {Sc:List Nat} {l1 lr:List HL} (ho:Own w0 S w l) (h1:Own w Sc w1 l1) (hr:Own w0 S w lr) (hSc:∀ b∈Sc,b∈S∨w0.heap.size≤b) (hdis:∀ x∈lr,∀ b,x.block=some b→b ∉ Sc):Own w0 S w1 (l1++lr):=by
 have hkeep:∀ b,b<w.heap.size→b ∉ Sc→w1.heap[b]? = w.heap[b]?:=h1.old
 refine ⟨h1.os.trans ho.os,h1.tape.trans ho.tape,h1.output.trans ho.output,Nat.le_trans ho.size h1.size,?_,?_,?_,?_⟩
 ·intro b hb hS
  rw [hkeep b (Nat.lt_of_lt_of_le hb ho.size) (fun hc=>?_),ho.old b hb hS]
  rcases hSc b hc with h | h
  ·exact hS h
  ·omega
 ·intro x hx
  rcases List.mem_append.1 hx with hx | hx
  ·exact h1.holds x hx
  ·exact HL.holds_of_block (hr.holds x hx) fun b hb=>hkeep b (HL.holds_lt (hr.holds x hx) hb) (hdis x hx b hb)
 ·intro x hx b hb
  rcases List.mem_append.1 hx with hx | hx
  ·rcases h1.place x hx b hb with h | h
   ·exact hSc b h
   ·exact .inr (Nat.le_trans ho.size h)
  ·exact hr.place x hx b hb
 ·rw [List.filterMap_append]
  refine List.nodup_append.2 ⟨h1.nodup,hr.nodup,?_⟩
  intro b hb1 c hc1 hbc
  subst hbc
  obtain ⟨x,hx,hxb⟩:=List.mem_filterMap.1 hb1
  obtain ⟨y,hy,hyb⟩:=List.mem_filterMap.1 hc1
  rcases h1.place x hx b hxb with h | h
  ·exact hdis y hy b hyb h
  ·have:=HL.holds_lt (hr.holds y hy) hyb
   omega
theorem ZJ {F:FuncId} {vf vc:List Value} {x:Operand} {xs:List Operand} {at_:Array TypeId} {vs:List Value} {R:Value→List HL→Prop} (hd:Nat.ble n d=false) (hx:e.ev x=some (.func (.func F) vf.toArray vc.toArray)) (hxs:e.evs xs=some vs)
    (hcall:∀ args w,(callFunc F args).run P w=.ok (.enter F args) w) (hspec:∀ w,Own w0 S w l→Sp P F (vf++vs++vc) w [] R) (k:∀ v l1,R v l1→GK dm n K ((d,v)::e) w0 S (l1++l)) :
    GK dm n (fun a w=>Oper.wp P ⟨some d,.call { callee:=.value x,args:=xs.toArray,argTypes:=at_ },ty,pos,aft,gd⟩ a w K Q) e w0 S l:=fun a w hs ho=>by
  refine Zlw (VD hs hx hxs hcall w) (Calls.mono (hspec w ho) fun en w1 ⟨v,l1,he,hR,h1⟩=>⟨v,he,?_⟩)
  exact k v l1 hR _ _ (hs.put (Xx hd) v) (ho.called h1 ho (by simp) (by simp))
theorem Yi (ic ir:List Nat) {F:FuncId} {vf vc:List Value} {x:Operand} {xs:List Operand} {at_:Array TypeId} {vs:List Value} {Sc:List Nat} {R:Value→List HL→Prop} (hd:Nat.ble n d=false) (hx:e.ev x=some (.func (.func F) vf.toArray vc.toArray)) (hxs:e.evs xs=some vs)
    (hcall:∀ args w,(callFunc F args).run P w=.ok (.enter F args) w) (hno:(ic++ir).Nodup) (hSc:Sc=(pick ic l).filterMap HL.block)
    (hspec:∀ w,Own w0 S w l→Own w Sc w (pick ic l)→Sp P F (vf++vs++vc) w Sc R) (k:∀ v l1,R v l1→GK dm n K ((d,v)::e) w0 S (l1++pick ir l)) :
    GK dm n (fun a w=>Oper.wp P ⟨some d,.call { callee:=.value x,args:=xs.toArray,argTypes:=at_ },ty,pos,aft,gd⟩ a w K Q) e w0 S l:=fun a w hs ho=>by
  have hc:=ho.pick ic (List.nodup_append.1 hno).1
  have hown:Own w Sc w (pick ic l):=⟨rfl,rfl,rfl,Nat.le_refl _,fun _ _ _=>rfl,hc.holds,fun x hx b hb=>.inl (by rw [hSc]; exact List.mem_filterMap.2 ⟨x,hx,hb⟩),hc.nodup⟩
  refine Zlw (VD hs hx hxs hcall w) (Calls.mono (hspec w ho hown) fun en w1 ⟨v,l1,he,hR,h1⟩=>⟨v,he,?_⟩)
  refine k v l1 hR _ _ (hs.put (Xx hd) v) (ho.called h1 (ho.pick ir (List.nodup_append.1 hno).2.1) ?_ ?_)
  · intro b hb
    rw [hSc] at hb
    obtain ⟨y,hy,hyb⟩:=List.mem_filterMap.1 hb
    exact hc.place y hy b hyb
  · intro y hy b hyb hb
    rw [hSc] at hb
    obtain ⟨z,hz,hzb⟩:=List.mem_filterMap.1 hb
    simp only [pick,List.mem_filterMap] at hy hz
    obtain ⟨i,hi,hyi⟩:=hy
    obtain ⟨j,hj,hzj⟩:=hz
    have:=W2 ho.nodup hyi hzj hyb hzb
    subst this
    exact (List.nodup_append.1 hno).2.2 i hj i hi rfl
variable {ops:Array Oper} {rest:List Oper} {o:Oper}
theorem ZM (h:GK dm n (Q .normal) e w0 S l):GK dm n (wpList P ops Q []) e w0 S l:=h
theorem Zt {op:Op} (h:GK dm n (fun a w=>Oper.wp P ⟨dst,op,ty,pos,aft,none⟩ a w (wpList P ops Q rest) Q) e w0 S l):GK dm n (wpList P ops Q (⟨dst,op,ty,pos,aft,none⟩::rest)) e w0 S l :=
  fun a w hs ho=>by
    unfold wpList
    rw [if_pos (by simp [Region.wanted])]
    exact .inl (h a w hs ho)
theorem Zam {a:Act} (hs:Sat dm n a e) {j dj:Nat} {b:Bool} (hj:(ops[j]?).bind (·.dst)=some dj) (hb:e.get dj=some (.bool b)):yielded ops a.tmps j=some b:=by
 simp [yielded,hj,hs.get dj _ hb]
theorem Zg {op:Op} {j dj:Nat} {b:Bool} (hj:(ops[j]?).bind (·.dst)=some dj) (hb:e.get dj=some (.bool b))
    (h:GK dm n (fun a w=>Oper.wp P ⟨dst,op,ty,pos,aft,some (j,b)⟩ a w (wpList P ops Q rest) Q) e w0 S l):GK dm n (wpList P ops Q (⟨dst,op,ty,pos,aft,some (j,b)⟩::rest)) e w0 S l :=
  fun a w hs ho=>by
    have hy:=Zam hs hj hb
    unfold wpList
    rw [if_pos (by simp [Region.wanted,hy])]
    exact .inl (h a w hs ho)
theorem Zj {op:Op} {j dj:Nat} {b:Bool} (hj:(ops[j]?).bind (·.dst)=some dj) (hb:e.get dj=some (.bool (!b))) (hd:Nat.ble n d=false)
    (h:GK dm n (wpList P ops Q rest) ((d,undef)::e) w0 S l):GK dm n (wpList P ops Q (⟨some d,op,ty,pos,aft,some (j,b)⟩::rest)) e w0 S l :=
  fun a w hs ho=>by
    have hy:=Zam hs hj hb
    unfold wpList
    rw [if_neg (by cases b <;> simp [Region.wanted,hy])]
    exact h _ _ (hs.put (Xx hd) _) ho
theorem Zit {a:Act} (hs:Sat dm n a e) {j dj:Nat} (hj:(ops[j]?).bind (·.dst)=some dj) (hb:e.get dj=some undef):yielded ops a.tmps j=none:=by
 simp [yielded,hj,hs.get dj _ hb,undef]
theorem Z2 {op:Op} {j dj:Nat} {b:Bool} (hj:(ops[j]?).bind (·.dst)=some dj) (hb:e.get dj=some undef) (hd:Nat.ble n d=false)
    (h:GK dm n (wpList P ops Q rest) ((d,undef)::e) w0 S l):GK dm n (wpList P ops Q (⟨some d,op,ty,pos,aft,some (j,b)⟩::rest)) e w0 S l :=
  fun a w hs ho=>by
    have hy:=Zit hs hj hb
    unfold wpList
    rw [if_neg (by simp [Region.wanted,hy])]
    exact h _ _ (hs.put (Xx hd) _) ho
end
section
variable {dm:List Deferred} {P:Program} {ops:Array Oper} {md:Region.Mode} {I:World→Prop} {z:Bool} {h0:Nat} {Q:Exit→Act→World→Prop}
def quietB (P:Program) (o:Oper) (a:Act) (w:World) (v:Value):Result Next→Prop
  | .ok (.value u) w'=>w'=w∧u=v
  | .ok (.enter f args) w'=>w'=w∧Calls P f args w (fun e w''=>e=.returned v∧Below w.heap.size w w'')
  | _=>False
def YieldsE (P:Program) (ops:Array Oper) (I:World→Prop) (o:Oper) (v:Value) (a:Act):Prop :=
  (Region.wanted o (yielded ops a.tmps)=true∧∀ w,I w→quietB P o a w v ((execOp a.eval o).run P w)) ∨
  (Region.wanted o (yielded ops a.tmps)=false∧v=undef)
def YN (P:Program) (md:Region.Mode) (ops:Array Oper) (I:World→Prop) (z:Bool) (h0:Nat) (Q:Exit→Act→World→Prop):Nat→Array Bool→Act→World→Prop
  | 0,listed,a,w=>∀ w',Below w.heap.size w w'→((z=true∨listed.getD h0 true=false)→I w')∧Region.ready md ops listed=[]∧Q .normal a w'
  | f+1,listed,a,w=>∀ w',Below w.heap.size w w'→((z=true∨listed.getD h0 true=false)→I w')∧(Region.ready md ops listed=[]→Q .normal a w') ∧
      ∀ i∈Region.ready md ops listed,wpOp P ops Q i (YN P md ops I z h0 Q f (listed.setIfInBounds i true)) a w'
theorem W3 {w w' w'':World} (h:Below w.heap.size w w') (h':Below w'.heap.size w' w''):Below w.heap.size w w'':=h.trans (h'.mono h.size)
theorem Jx : ∀ (f:Nat) (listed:Array Bool) (a:Act) (w w':World),Below w.heap.size w w'→YN P md ops I z h0 Q f listed a w→YN P md ops I z h0 Q f listed a w'
  | 0,_,_,_,_,hb,h=>fun w'' hb'=>h w'' (W3 hb hb')
  | _+1,_,_,_,_,hb,h=>fun w'' hb'=>h w'' (W3 hb hb')
theorem Zg2 : ∀ (f:Nat) (listed:Array Bool) (a:Act) (w:World),YN P md ops I z h0 Q f listed a w→wpAny P md ops Q f listed a w
  | 0,_,_,w,h=>⟨(h w (Below.refl _ _)).2.1,(h w (Below.refl _ _)).2.2⟩
  | f+1,_,_,w,h=>⟨(h w (Below.refl _ _)).2.1,fun i hi=>wpOp_mono (fun a' w' h'=>Zg2 f _ a' w' h') ((h w (Below.refl _ _)).2.2 i hi)⟩
theorem YieldsE.of_same {o:Oper} {v:Value} {a a':Act} (hy:YieldsE P ops I o v a) (he:execOp a'.eval o=execOp a.eval o)
    (hw:Region.wanted o (yielded ops a'.tmps)=Region.wanted o (yielded ops a.tmps)):YieldsE P ops I o v a':=by
  unfold YieldsE at *
  rw [he,hw]
  rcases hy with ⟨h1,h2⟩ | h
  · refine .inl ⟨h1,fun w hI=>?_⟩
    have:=h2 w hI
    revert this
    cases (execOp a.eval o).run P w with
    | ok nx w'=>cases nx <;> exact id
    | halt h w'=>exact id
  · exact .inr h
theorem YieldsE.wpOp {i:Nat} {o:Oper} {v:Value} {a:Act} {w:World} {K:Act→World→Prop} (hi:ops[i]? = some o) (hy:YieldsE P ops I o v a) (hI:I w) (hK:∀ w',Below w.heap.size w w'→K (a.put o.dst v) w'):wpOp P ops Q i K a w:=by
 unfold Go.wpOp
 simp only [hi]
 rcases hy with ⟨hw,hv⟩ | ⟨hw,rfl⟩
 ·rw [if_pos hw]
  have h:=hv w hI
  refine .inl ?_
  unfold Oper.wp
  revert h
  cases (execOp a.eval o).run P w with
  | ok nx w' =>
   cases nx with
   | value u=>rintro ⟨rfl,rfl⟩; exact hK _ (Below.refl _ _)
   | enter f args =>
    rintro ⟨rfl,hc⟩
    rw [Oper.upon_enter]
    refine Calls.mono hc fun en w'' ⟨he,hb⟩=>?_
    subst he
    exact hK w'' hb
   | _=>exact fun h=>h.elim
  | halt h w'=>exact fun h=>h.elim
 ·rw [if_neg (by simp [hw])]
  exact hK w (Below.refl _ _)
def Y8 (QN:Act→World→Prop):Exit→Act→World→Prop
  | .normal,a,w=>QN a w
  | _,_,_=>False
theorem wpOp_put {QN:Act→World→Prop} {j:Nat} {oi oj:Oper} {v:Value} (hj:ops[j]? = some oj) (hap:oi.apart ops oj=true)
    (hsi:∀ cs b,oi.op≠.select cs b) (hsj:∀ cs b,oj.op≠.select cs b) {K:Act→World→Prop} {a:Act} {w:World}
    (hy:YieldsE P ops I oi v a) (h:wpOp P ops (Y8 QN) j K (a.put oi.dst v) w) :
    wpOp P ops (Y8 QN) j (fun a' w'=>YieldsE P ops I oi v a'∧K (a'.put oi.dst v) w') a w:=by
  obtain ⟨h1,h2,h3⟩:=Oper.apart_spec hap
  have keep:∀ (a1:Act),a1.tmps=a.tmps→∀ u,YieldsE P ops I oi v (a1.put oj.dst u):=fun a1 ha u=>by
    have e1:execOp (a1.put oj.dst u).eval oi=execOp a1.eval oi:=execOp_put oi hsi a1 oj.dst u h3
    have e2:Region.wanted oi (yielded ops (a1.put oj.dst u).tmps)=Region.wanted oi (yielded ops a1.tmps):=wanted_put oi a1 oj.dst u h3
    have e3:a1.eval=a.eval:=by funext x; cases x <;> simp [Act.eval,ha]
    exact hy.of_same (by rw [e1,e3]) (by rw [e2,ha])
  have comm:∀ (a1:Act) (u:Value),(a1.put oi.dst v).put oj.dst u=(a1.put oj.dst u).put oi.dst v:=fun a1 u=>Act.put_comm a1 v u h2
  unfold Go.wpOp at *
  simp only [hj] at *
  rw [wanted_put oj a oi.dst v h1] at h
  split
  · rename_i hw
    rw [if_pos hw] at h
    rcases h with h | ⟨_,⟨_,_,h⟩⟩
    · refine .inl ?_
      unfold Oper.wp at *
      rw [execOp_put oj hsj a oi.dst v h1] at h
      revert h
      cases (execOp a.eval oj).run P w with
      | ok nx w' =>
        cases nx with
        | value u=>exact fun h=>⟨keep a rfl u,by rw [← comm]; exact h⟩
        | skip=>exact fun h=>⟨keep a rfl undef,by rw [← comm]; exact h⟩
        | defer dd =>
          intro h
          refine ⟨keep { a with defers:=dd::a.defers } rfl undef,?_⟩
          rw [← comm]
          simp only [Oper.upon] at h
          have:=Act.put_defers a oi.dst v dd
          rw [this] at h
          exact h
        | enter f args =>
          intro h
          rw [Oper.upon_enter] at *
          refine Calls.mono h fun en w'' he=>?_
          cases en with
          | returned u=>exact ⟨keep a rfl u,by rw [← comm]; exact he⟩
          | panicked ch=>exact he.elim
          | outgrown=>obtain ⟨_,_,he⟩:=he; exact he.elim
        | row r args =>
          intro h
          rw [Oper.upon_row] at *
          exact Rows.mono h fun u w'' he=>⟨keep a rfl u,by rw [← comm]; exact he⟩
        | _=>exact fun h=>h.elim
      | halt hh w'=>cases hh <;> exact fun h=>h.elim
    · exact h.elim
  · rename_i hw
    rw [if_neg hw] at h
    exact ⟨keep a rfl undef,by rw [← comm]; exact h⟩
theorem Zan {QN:Act→World→Prop} {i:Nat} {oi:Oper} {v:Value} (hi:ops[i]? = some oi) (hsel:∀ (j:Nat) (o:Oper) cs b,ops[j]? = some o→o.op≠.select cs b) :
    ∀ (f:Nat) (listed:Array Bool) (a:Act) (w:World),
      (∀ j oj,ops[j]? = some oj→j≠i→listed.getD j true=false→(∀ e∈oj.after,Region.binds md e=true→e.on≠i)→oi.apart ops oj=true) →
      i∈Region.ready md ops listed→YieldsE P ops I oi v a→(∀ w',Below w.heap.size w w'→I w') →
      (z=true∨∃ ot,ops[h0]? = some ot∧h0≠i∧listed.getD h0 true=false∧∃ e∈ot.after,Region.binds md e=true∧e.on=i) →
      YN P md ops I z h0 (Y8 QN) f (listed.setIfInBounds i true) (a.put oi.dst v) w→YN P md ops I z h0 (Y8 QN) (f+1) listed a w:=by
  intro f
  induction f with
  | zero =>
    intro listed a w _ hr hy hI _ H w' hb
    refine ⟨fun _=>hI w' hb,fun h=>(by rw [h] at hr; cases hr),fun j hj=>?_⟩
    by_cases hji:j=i
    · subst hji
      exact hy.wpOp hi (hI w' hb) fun w'' hb'=>Jx 0 _ _ w w'' (W3 hb hb') H
    · have:=ready_mono hj hji
      rw [(H w (Below.refl _ _)).2.1] at this
      cases this
  | succ f ih =>
    intro listed a w hfree hr hy hI hz H w' hb
    refine ⟨fun _=>hI w' hb,fun h=>(by rw [h] at hr; cases hr),fun j hj=>?_⟩
    by_cases hji:j=i
    · subst hji
      exact hy.wpOp hi (hI w' hb) fun w'' hb'=>Jx (f+1) _ _ w w'' (W3 hb hb') H
    · have h1:=(H w' hb).2.2 j (ready_mono hj hji)
      obtain ⟨hjun,oj,hoj,hall⟩:=mem_ready.1 hj
      have hnot:∀ e∈oj.after,Region.binds md e=true→e.on≠i:=fun e he hbd heq=>by
        have h1:=hall e he hbd
        have h0:=(mem_ready.1 hr).1
        rw [heq] at h1
        rcases Nat.lt_or_ge i listed.size with h' | h'
        · simp [h'] at h0 h1; rw [h0] at h1; cases h1
        · simp [Array.getElem?_eq_none h'] at h1
      have h2:=wpOp_put hoj (hfree j oj hoj hji hjun hnot) (fun cs b=>hsel i oi cs b hi) (fun cs b=>hsel j oj cs b hoj) hy h1
      have hfree':∀ k ok,ops[k]? = some ok→k≠i→(listed.setIfInBounds j true).getD k true=false →
          (∀ e∈ok.after,Region.binds md e=true→e.on≠i)→oi.apart ops ok=true:=fun k ok hk hki hun hno=>by
        refine hfree k ok hk hki ?_ hno
        by_cases hjk:j=k
        · subst hjk; exact hjun
        · rw [getD_set_ne true hjk] at hun; exact hun
      have hz':z=true∨∃ ot,ops[h0]? = some ot∧h0≠i∧(listed.setIfInBounds j true).getD h0 true=false∧∃ e∈ot.after,Region.binds md e=true∧e.on=i:=by
        rcases hz with hz | ⟨ot,ht,hti,hun,e,he,hbd,hon⟩
        · exact .inl hz
        · refine .inr ⟨ot,ht,hti,?_,e,he,hbd,hon⟩
          have hjt:j≠h0:=fun h=>by
            subst h
            have:oj=ot:=Option.some.inj (hoj.symm.trans ht)
            subst this
            exact hnot e he hbd hon
          rw [getD_set_ne true hjt]; exact hun
      refine wpOp_mono (fun a' w'' h3=>?_) h2
      have h4:=h3.2
      rw [Array.setIfInBounds_comm _ _ (Ne.symm hji)] at h4
      refine ih (listed.setIfInBounds j true) a' w'' hfree' (ready_mono hr (Ne.symm hji)) h3.1 (fun w3 hb3=>?_) hz' h4
      have hd:z=true∨((listed.setIfInBounds j true).setIfInBounds i true).getD h0 true=false:=by
        rcases hz' with hz' | ⟨ot,ht,hti,hun,_⟩
        · exact .inl hz'
        · exact .inr (by rw [getD_set_ne true (Ne.symm hti)]; exact hun)
      cases f with
      | succ f=>exact (h4 w3 hb3).1 hd
      | zero=>exact (h4 w3 hb3).1 hd
theorem Ziu {QN:Act→World→Prop} {i:Nat} {oi:Oper} {v:Value} (hi:ops[i]? = some oi) (hsel:∀ (j:Nat) (o:Oper) cs b,ops[j]? = some o→o.op≠.select cs b) (hih:h0≠i) :
    ∀ (f:Nat) (listed:Array Bool) (a:Act) (w:World),
      (∀ j oj,ops[j]? = some oj→j≠i→listed.getD j true=false→(∀ e∈oj.after,Region.binds md e=true→e.on≠i)→oi.apart ops oj=true) →
      i∈Region.ready md ops listed→YieldsE P ops (fun _=>True) oi v a →
      YN P md ops I z h0 (Y8 QN) f (listed.setIfInBounds i true) (a.put oi.dst v) w→YN P md ops I z h0 (Y8 QN) (f+1) listed a w:=by
  intro f
  induction f with
  | zero =>
    intro listed a w _ hr hy H w' hb
    refine ⟨fun hz=>(H w' hb).1 (hz.imp id fun h=>by rw [getD_set_ne true (Ne.symm hih)]; exact h),fun h=>(by rw [h] at hr; cases hr),fun j hj=>?_⟩
    by_cases hji:j=i
    · subst hji
      exact hy.wpOp hi trivial fun w'' hb'=>Jx 0 _ _ w w'' (W3 hb hb') H
    · have:=ready_mono hj hji
      rw [(H w (Below.refl _ _)).2.1] at this
      cases this
  | succ f ih =>
    intro listed a w hfree hr hy H w' hb
    refine ⟨fun hz=>(H w' hb).1 (hz.imp id fun h=>by rw [getD_set_ne true (Ne.symm hih)]; exact h),fun h=>(by rw [h] at hr; cases hr),fun j hj=>?_⟩
    by_cases hji:j=i
    · subst hji
      exact hy.wpOp hi trivial fun w'' hb'=>Jx (f+1) _ _ w w'' (W3 hb hb') H
    · have h1:=(H w' hb).2.2 j (ready_mono hj hji)
      obtain ⟨hjun,oj,hoj,hall⟩:=mem_ready.1 hj
      have hnot:∀ e∈oj.after,Region.binds md e=true→e.on≠i:=fun e he hbd heq=>by
        have h1:=hall e he hbd
        have h0:=(mem_ready.1 hr).1
        rw [heq] at h1
        rcases Nat.lt_or_ge i listed.size with h' | h'
        · simp [h'] at h0 h1; rw [h0] at h1; cases h1
        · simp [Array.getElem?_eq_none h'] at h1
      have h2:=wpOp_put hoj (hfree j oj hoj hji hjun hnot) (fun cs b=>hsel i oi cs b hi) (fun cs b=>hsel j oj cs b hoj) hy h1
      have hfree':∀ k ok,ops[k]? = some ok→k≠i→(listed.setIfInBounds j true).getD k true=false →
          (∀ e∈ok.after,Region.binds md e=true→e.on≠i)→oi.apart ops ok=true:=fun k ok hk hki hun hno=>by
        refine hfree k ok hk hki ?_ hno
        by_cases hjk:j=k
        · subst hjk; exact hjun
        · rw [getD_set_ne true hjk] at hun; exact hun
      refine wpOp_mono (fun a' w'' h3=>?_) h2
      have h4:=h3.2
      rw [Array.setIfInBounds_comm _ _ (Ne.symm hji)] at h4
      exact ih (listed.setIfInBounds j true) a' w'' hfree' (ready_mono hr (Ne.symm hji)) h3.1 h4
theorem Zlx {QN:Act→World→Prop} {id:Nat} {Q:Exit→Act→World→Prop} {a:Act} {w:World} (hm:P.follows .mixedOrders=true)
    (h:YN P .any ops I z h0 (Y8 (fun a w=>Q .normal a w)) ops.size (Array.replicate ops.size false) a { w with drawn:=w.drawn+1 }):(Code.region id ops true).wp P Q a w:=by
  refine wp_mono (Q:=Y8 fun a w=>Q .normal a w) (wp_region_any hm (Zg2 _ _ _ _ h)) fun x a w hq=>?_
  cases x with
  | normal=>exact hq
  | _=>exact hq.elim
end
def IO (w0:World) (S:List Nat) (lc:List HL):World→Prop:=fun w=>Own w0 S w lc
section
variable {dm:List Deferred} {P:Program} {n:Nat} {Q:Exit→Act→World→Prop} {K:Act→World→Prop} {e:Env} {w0:World} {S:List Nat} {l:List HL}
def Qt (P:Program) (dm:List Deferred) (n:Nat) (e:Env) (w0:World) (S:List Nat) (l:List HL) (o:Oper) (v:Value):Prop :=
  ∀ a w,Sat dm n a e→Own w0 S w l→quietB P o a w v ((execOp a.eval o).run P w)
theorem Zf {o:Oper} {v:Value} (h:Rd P dm n e w0 S l o v):Qt P dm n e w0 S l o v:=fun a w hs ho=>by rw [h a w hs ho]; exact ⟨rfl,rfl⟩
theorem YE {dst:Option Tmp} {ty:TypeId} {pos:String} {aft:Array Edge} {gd:Option (Nat × Bool)} {F:FuncId} {vf vc:List Value} {x:Operand} {xs:List Operand} {at_:Array TypeId} {vs:List Value} {R:Value→List HL→Prop} {v:Value} (hx:e.ev x=some (.func (.func F) vf.toArray vc.toArray)) (hxs:e.evs xs=some vs)
    (hcall:∀ args w,(callFunc F args).run P w=.ok (.enter F args) w) (hspec:∀ w,Own w0 S w l→Sp P F (vf++vs++vc) w [] R) (hv:∀ u l1,R u l1→u=v) :
    Qt P dm n e w0 S l ⟨dst,.call { callee:=.value x,args:=xs.toArray,argTypes:=at_ },ty,pos,aft,gd⟩ v:=fun a w hs ho=>by
  rw [VD hs hx hxs hcall w]
  refine ⟨rfl,Calls.mono (hspec w ho) fun en w1 ⟨u,l1,he,hR,h1⟩=>⟨by rw [he,hv u l1 hR],h1.below⟩⟩
theorem Zpz {id:Nat} {ops:List Oper} (lc:List HL) (z:Bool) (h0:Nat) (hm:P.follows .mixedOrders=true) (h:GK dm n (YN P .any ops.toArray (IO w0 S lc) z h0 (Y8 (Q .normal)) ops.length (Array.replicate ops.length false)) e w0 S l) :
    GK dm n ((Code.region id ops.toArray true).wp P Q) e w0 S l:=fun a w hs ho =>
  Zlx (QN:=Q .normal) hm (I:=IO w0 S lc) (z:=z) (h0:=h0) (by simpa using h a _ hs ho.drew)
theorem ZO {id:Nat} {ops:List Oper} (idx:List Nat) (z:Bool) (h0:Nat) (hm:P.follows .mixedOrders=true) (h:GK dm n (YN P .any ops.toArray (IO w0 S (pick idx l)) z h0 (Y8 (Q .normal)) ops.length (Array.replicate ops.length false)) e w0 S l) :
    GK dm n ((Code.region id ops.toArray true).wp P Q) e w0 S l:=Zpz (pick idx l) z h0 hm h
variable {ops:Array Oper} {z:Bool} {h0:Nat} {QN:Act→World→Prop} {lc:List HL} {f:Nat} {listed:Array Bool}
def Zao (ops:Array Oper) (listed:Array Bool) (z:Bool) (i last:Nat):Bool :=
  Region.noSelect ops && Region.free .any ops listed i && (Region.ready .any ops listed).contains i &&
  (z || (match ops[last]? with | some ot=>!(Nat.beq last i) && !listed.getD last true && ot.after.any (fun e=>Region.binds .any e && e.on == i) | none=>false))
theorem ga_first {o:Oper} {v:Value} {d:Nat} (i:Nat) (listed':Array Bool) (hi:ops[i]? = some o) (hdst:o.dst=some d) (hd:Nat.ble n d=false) (hg:o.guard=none) (hB:Zao ops listed z i h0=true) (hl:listed.setIfInBounds i true=listed') (hsub:Sub lc l) (hq:Qt P dm n e w0 S lc o v)
    (k:GK dm n (YN P .any ops (IO w0 S lc) z h0 (Y8 QN) f listed') ((d,v)::e) w0 S l):GK dm n (YN P .any ops (IO w0 S lc) z h0 (Y8 QN) (f+1) listed) e w0 S l:=fun a w hs ho=>by
  subst hl
  simp only [Zao,Bool.and_eq_true] at hB
  obtain ⟨⟨⟨h1,h2⟩,h3⟩,h4⟩:=hB
  refine Zan hi (Region.noSelect_spec h1) f listed a w (fun j oj hj hne hun hno=>Region.free_spec hi h2 j oj hj hne hun hno) (by simpa using h3)
    (.inl ⟨by simp [Region.wanted,hg],fun w' hw'=>hq a w' hs hw'⟩) (fun w' hb=>(ho.ext hb).sub hsub) ?_ ?_
  · simp only [Bool.or_eq_true] at h4
    rcases h4 with h4 | h4
    · exact .inl h4
    · right
      split at h4
      · rename_i ot hot
        simp only [Bool.and_eq_true,Bool.not_eq_true'] at h4
        obtain ⟨⟨h5,h6⟩,h7⟩:=h4
        obtain ⟨e,he,hb⟩:=Array.any_eq_true'.1 h7
        simp only [Bool.and_eq_true,beq_iff_eq] at hb
        exact ⟨ot,hot,fun h=>by subst h; simp at h5,h6,e,he,hb.1,hb.2⟩
      · cases h4
  · rw [hdst]; exact k _ _ (hs.put (Xx hd) v) ho
def Zkn (ops:Array Oper) (listed:Array Bool) (i h0:Nat):Bool :=
  Region.noSelect ops && Region.free .any ops listed i && (Region.ready .any ops listed).contains i && !(Nat.beq h0 i)
theorem Zq7 {o:Oper} {v:Value} {d:Nat} (i:Nat) (listed':Array Bool) (hi:ops[i]? = some o) (hdst:o.dst=some d) (hd:Nat.ble n d=false) (hg:o.guard=none) (hB:Zkn ops listed i h0=true) (hl:listed.setIfInBounds i true=listed') (hq:∀ w,Rd P dm n e w [] [] o v)
    (k:GK dm n (YN P .any ops (IO w0 S lc) z h0 (Y8 QN) f listed') ((d,v)::e) w0 S l):GK dm n (YN P .any ops (IO w0 S lc) z h0 (Y8 QN) (f+1) listed) e w0 S l:=fun a w hs ho=>by
  subst hl
  simp only [Zkn,Bool.and_eq_true,Bool.not_eq_true'] at hB
  obtain ⟨⟨⟨h1,h2⟩,h3⟩,h4⟩:=hB
  refine Ziu hi (Region.noSelect_spec h1) (fun h=>by subst h; simp at h4) f listed a w (fun j oj hj hne hun hno=>Region.free_spec hi h2 j oj hj hne hun hno) (by simpa using h3)
    (.inl ⟨by simp [Region.wanted,hg],fun w' _=>by rw [hq w' a w' hs (Own.refl w')]; exact ⟨rfl,rfl⟩⟩) ?_
  rw [hdst]; exact k _ _ (hs.put (Xx hd) v) ho
theorem Zq8 {o:Oper} {v:Value} {d j dj:Nat} {b:Bool} (i:Nat) (listed':Array Bool) (hi:ops[i]? = some o) (hdst:o.dst=some d) (hd:Nat.ble n d=false) (hg:o.guard=some (j,b)) (hj:(ops[j]?).bind (·.dst)=some dj) (hb:e.get dj=some (.bool b)) (hB:Zao ops listed z i h0=true) (hl:listed.setIfInBounds i true=listed') (hsub:Sub lc l) (hq:Qt P dm n e w0 S lc o v)
    (k:GK dm n (YN P .any ops (IO w0 S lc) z h0 (Y8 QN) f listed') ((d,v)::e) w0 S l):GK dm n (YN P .any ops (IO w0 S lc) z h0 (Y8 QN) (f+1) listed) e w0 S l:=fun a w hs ho=>by
  subst hl
  simp only [Zao,Bool.and_eq_true] at hB
  obtain ⟨⟨⟨h1,h2⟩,h3⟩,h4⟩:=hB
  refine Zan hi (Region.noSelect_spec h1) f listed a w (fun j oj hj hne hun hno=>Region.free_spec hi h2 j oj hj hne hun hno) (by simpa using h3)
    (.inl ⟨by simp [Region.wanted,hg,Zam hs hj hb],fun w' hw'=>hq a w' hs hw'⟩) (fun w' hb=>(ho.ext hb).sub hsub) ?_ ?_
  · simp only [Bool.or_eq_true] at h4
    rcases h4 with h4 | h4
    · exact .inl h4
    · right
      split at h4
      · rename_i ot hot
        simp only [Bool.and_eq_true,Bool.not_eq_true'] at h4
        obtain ⟨⟨h5,h6⟩,h7⟩:=h4
        obtain ⟨e,he,hb⟩:=Array.any_eq_true'.1 h7
        simp only [Bool.and_eq_true,beq_iff_eq] at hb
        exact ⟨ot,hot,fun h=>by subst h; simp at h5,h6,e,he,hb.1,hb.2⟩
      · cases h4
  · rw [hdst]; exact k _ _ (hs.put (Xx hd) v) ho
theorem Zq9 {o:Oper} {d j dj:Nat} {b:Bool} (i:Nat) (listed':Array Bool) (hi:ops[i]? = some o) (hdst:o.dst=some d) (hd:Nat.ble n d=false) (hg:o.guard=some (j,b)) (hj:(ops[j]?).bind (·.dst)=some dj) (hb:e.get dj=some (.bool (!b))) (hB:Zao ops listed z i h0=true) (hl:listed.setIfInBounds i true=listed') (hsub:Sub lc l)
    (k:GK dm n (YN P .any ops (IO w0 S lc) z h0 (Y8 QN) f listed') ((d,undef)::e) w0 S l):GK dm n (YN P .any ops (IO w0 S lc) z h0 (Y8 QN) (f+1) listed) e w0 S l:=fun a w hs ho=>by
  subst hl
  simp only [Zao,Bool.and_eq_true] at hB
  obtain ⟨⟨⟨h1,h2⟩,h3⟩,h4⟩:=hB
  refine Zan hi (Region.noSelect_spec h1) f listed a w (fun j oj hj hne hun hno=>Region.free_spec hi h2 j oj hj hne hun hno) (by simpa using h3)
    (.inr ⟨by cases b <;> simp [Region.wanted,hg,Zam hs hj hb],rfl⟩) (fun w' hb=>(ho.ext hb).sub hsub) ?_ ?_
  · simp only [Bool.or_eq_true] at h4
    rcases h4 with h4 | h4
    · exact .inl h4
    · right
      split at h4
      · rename_i ot hot
        simp only [Bool.and_eq_true,Bool.not_eq_true'] at h4
        obtain ⟨⟨h5,h6⟩,h7⟩:=h4
        obtain ⟨e,he,hb⟩:=Array.any_eq_true'.1 h7
        simp only [Bool.and_eq_true,beq_iff_eq] at hb
        exact ⟨ot,hot,fun h=>by subst h; simp at h5,h6,e,he,hb.1,hb.2⟩
      · cases h4
  · rw [hdst]; exact k _ _ (hs.put (Xx hd) undef) ho
theorem Zoi (hsub:(z || !listed.getD h0 true)=false∨Sub lc l) (hz:z=true∨listed.getD h0 true=false):Sub lc l:=by
 rcases hsub with h | h
 ·simp only [Bool.or_eq_false_iff,Bool.not_eq_false'] at h
  rcases hz with h1 | h1
  ·rw [h.1] at h1; cases h1
  ·rw [h.2] at h1; cases h1
 ·exact h
theorem ga_only {o:Oper} (i:Nat) (listed':Array Bool) (hi:ops[i]? = some o) (hg:o.guard=none) (hB:decide (Region.ready .any ops listed=[i])=true) (hl:listed.setIfInBounds i true=listed') (hsub:(z || !listed.getD h0 true)=false∨Sub lc l)
    (k:GK dm n (fun a w=>Oper.wp P o a w (YN P .any ops (IO w0 S lc) z h0 (Y8 QN) f listed') (Y8 QN)) e w0 S l):GK dm n (YN P .any ops (IO w0 S lc) z h0 (Y8 QN) (f+1) listed) e w0 S l:=fun a w hs ho w' hb=>by
  subst hl
  have hB':=of_decide_eq_true hB
  refine ⟨fun hz=>(ho.ext hb).sub (Zoi hsub hz),fun h=>(by rw [hB'] at h; cases h),fun j hj=>?_⟩
  rw [hB'] at hj
  have:j=i:=by simpa using hj
  subst this
  unfold wpOp
  simp only [hi]
  rw [if_pos (by simp [Region.wanted,hg])]
  exact .inl (k a w' hs (ho.ext hb))
theorem Zap {o1 o2:Oper} (i1 i2:Nat) (l1 l2:Array Bool) (hi1:ops[i1]? = some o1) (hi2:ops[i2]? = some o2) (hg1:o1.guard=none) (hg2:o2.guard=none) (hB:decide (Region.ready .any ops listed=[i1,i2])=true) (hl1:listed.setIfInBounds i1 true=l1) (hl2:listed.setIfInBounds i2 true=l2) (hsub:(z || !listed.getD h0 true)=false∨Sub lc l)
    (k1:GK dm n (fun a w=>Oper.wp P o1 a w (YN P .any ops (IO w0 S lc) z h0 (Y8 QN) f l1) (Y8 QN)) e w0 S l) (k2:GK dm n (fun a w=>Oper.wp P o2 a w (YN P .any ops (IO w0 S lc) z h0 (Y8 QN) f l2) (Y8 QN)) e w0 S l):GK dm n (YN P .any ops (IO w0 S lc) z h0 (Y8 QN) (f+1) listed) e w0 S l:=fun a w hs ho w' hb=>by
  subst hl1; subst hl2
  have hB':=of_decide_eq_true hB
  refine ⟨fun hz=>(ho.ext hb).sub (Zoi hsub hz),fun h=>(by rw [hB'] at h; cases h),fun j hj=>?_⟩
  rw [hB'] at hj
  have:j=i1∨j=i2:=by simpa using hj
  rcases this with rfl | rfl
  · unfold wpOp
    simp only [hi1]
    rw [if_pos (by simp [Region.wanted,hg1])]
    exact .inl (k1 a w' hs (ho.ext hb))
  · unfold wpOp
    simp only [hi2]
    rw [if_pos (by simp [Region.wanted,hg2])]
    exact .inl (k2 a w' hs (ho.ext hb))
theorem ga_end (hB:(Region.ready .any ops listed).isEmpty=true) (hsub:(z || !listed.getD h0 true)=false∨Sub lc l) (k:GK dm n QN e w0 S l):GK dm n (YN P .any ops (IO w0 S lc) z h0 (Y8 QN) 0 listed) e w0 S l:=fun a w hs ho w' hb =>
  ⟨fun hz=>(ho.ext hb).sub (Zoi hsub hz),by simpa using hB,k a w' hs (ho.ext hb)⟩
end
def adr (a:Option Addr):Addr:=a.getD ⟨0,0,none⟩
structure OldSl (w:World) (S:List Nat) (a:Option Addr) (n size:Nat) (cells:List Value):Prop where
  len:cells.length=n * size
  isSome:0<n→a.isSome=true
  cells:Cells w (adr a) cells
  out:0<n→(adr a).block ∉ S
theorem block_add (a:Addr) (k:Nat):(a.add k).block=a.block:=by simp only [Addr.add]; split <;> rfl
theorem Zko {w:World} {ad:Addr} {v:Value} (ha:w.cell? ad=some v):ad.block<w.heap.size:=by
 unfold World.cell? at ha
 split at ha
 ·rename_i hh; exact lt_size hh
 ·cases ha
theorem OldSl.lt {w:World} {S:List Nat} {a:Option Addr} {n size:Nat} {cells:List Value} (h:OldSl w S a n size cells) (hn:0<n) (hs:0<size):(adr a).block<w.heap.size:=by
 have h1:0<cells.length:=by rw [h.len]; exact Nat.mul_pos hn hs
 have:=Zko (h.cells 0 _ (List.getElem?_eq_getElem h1))
 rwa [block_add] at this
section
variable {dm:List Deferred} {P:Program} {n:Nat} {e:Env} {w0:World} {S:List Nat} {l:List HL} {dst:Option Tmp} {ty:TypeId} {pos:String} {aft:Array Edge} {gd:Option (Nat × Bool)}
theorem OldSl.at {w:World} {a:Option Addr} {m size:Nat} {cells:List Value} (h:OldSl w0 S a m size cells) (ho:Own w0 S w l):OldSl w [] a m size cells :=
  ⟨h.len,h.isSome,fun j v hv=>ho.cellOld (h.cells j v hv) (by
    rw [block_add]
    rcases Nat.eq_zero_or_pos m with rfl | hm
    · have:=h.len; simp at this; subst this; simp at hv
    · exact h.out hm),by simp⟩
theorem OldSl.atS {w:World} {a:Option Addr} {m size:Nat} {cells:List Value} {Sc:List Nat} (h:OldSl w0 S a m size cells) (ho:Own w0 S w l) (hs:0<size) (hlt:∀ b∈Sc,w0.heap.size≤b):OldSl w Sc a m size cells :=
  ⟨h.len,h.isSome,(h.at ho).cells,fun hm hb=>by have:=h.lt hm hs; have:=hlt _ hb; omega⟩
theorem adr_row (r:Option Nat):adr (rowA r)=⟨r.getD 0,0,none⟩:=by cases r <;> rfl
theorem Own.rowSl {w:World} (ho:Own w0 S w l) (i:Nat) {E:TypeId} {sz:Nat} {r:Option Nat} {m cap:Nat} {xs:List Value} (hi:l[i]? = some (.row E sz r m cap xs)):OldSl w [] (rowA r) m sz xs:=by
 have hh:=ho.holds _ (List.mem_of_getElem? hi)
 refine ⟨hh.1,fun hm=>?_,fun j v hv=>?_,by simp⟩
 ·cases r with
  | none=>have:=hh.2.1; omega
  | some g=>rfl
 ·rw [adr_row,Addr.add_lit,Nat.zero_add]; exact ho.rowCell i hi hv
theorem Z3 {t E:TypeId} {z:Value} {size bytes:Nat} {x y:Operand} {a:Option Addr} {m cap:Nat} {cells:List Value} {k:IntKind} {i:Int} (h:OldSl w0 S a m size cells) (hu:P.underlying t=some (.slice E)) (ht:TyF P E z size bytes) (hx:e.ev x=some (.slice a m cap)) (hy:e.ev y=some (.int k i)) (h0:0≤i) (h1:i<m) :
    Rd P dm n e w0 S l ⟨dst,.indexAddr t x y,ty,pos,aft,gd⟩ (.pointer (some ((adr a).add (i.toNat * size)))):=by
  have hs:=h.isSome (by omega)
  cases a with
  | none=>cases hs
  | some ad=>exact Zlt hu ht hx hy h0 h1
theorem Z9 {t E:TypeId} {z:Value} {bytes:Nat} {x y:Operand} {a:Option Addr} {m cap:Nat} {cells:List Value} {k:IntKind} {i:Int} (h:OldSl w0 S a m 1 cells) (hu:P.underlying t=some (.slice E)) (ht:TyF P E z 1 bytes) (hx:e.ev x=some (.slice a m cap)) (hy:e.ev y=some (.int k i)) (h0:0≤i) (h1:i<m) :
    Rd P dm n e w0 S l ⟨dst,.indexAddr t x y,ty,pos,aft,gd⟩ (.pointer (some ((adr a).add i.toNat))):=by
  have h2:=Z3 (dst:=dst) (ty:=ty) (pos:=pos) (aft:=aft) (gd:=gd) (dm:=dm) (n:=n) (l:=l) h hu ht hx hy h0 h1
  rwa [Nat.mul_one] at h2
theorem ld_sl {a:Option Addr} {m size off:Nat} {cells:List Value} {v:Value} (h:OldSl w0 S a m size cells) (hv:cells[off]? = some v):∀ w,Own w0 S w l→w.cell? ((adr a).add off)=some v :=
  fun w ho=>(h.at ho).cells off v hv
theorem XS {a:Option Addr} {m size off f:Nat} {cells:List Value} {v:Value} (h:OldSl w0 S a m size cells) (hv:cells[off+f]? = some v):∀ w,Own w0 S w l→w.cell? (((adr a).add off).add f)=some v :=
  fun w ho=>by rw [add_add]; exact (h.at ho).cells (off+f) v hv
theorem Zi7 {a:Option Addr} {m size off k:Nat} {cells cs:List Value} (h:OldSl w0 S a m size cells) (hcs:(cells.drop off).take k=cs):∀ w,Own w0 S w l→Cells w ((adr a).add off) cs :=
  fun w ho j v hv=>by
    subst hcs
    rw [add_add]
    rw [List.getElem?_take] at hv
    split at hv
    · exact (h.at ho).cells (off+j) v (by simpa using hv)
    · cases hv
theorem Own.trans {w w2:World} {l2:List HL} (h:Own w0 [] w l) (h2:Own w [] w2 l2):Own w0 [] w2 l2 :=
  ⟨h2.os.trans h.os,h2.tape.trans h.tape,h2.output.trans h.output,Nat.le_trans h.size h2.size,fun b hb hS=>(h2.old b (Nat.lt_of_lt_of_le hb h.size) hS).trans (h.old b hb hS),h2.holds,
   fun x hx b hb=>by rcases h2.place x hx b hb with h3 | h3; exact .inl h3; exact .inr (Nat.le_trans h.size h3),h2.nodup⟩
theorem Yj {ad:Addr} {cs:List Value} {j:Nat} {v:Value} (h:Cells w0 ad cs) (hS:ad.block ∉ S) (hv:cs[j]? = some v):∀ w,Own w0 S w l→w.cell? (ad.add j)=some v :=
  fun w ho=>ho.cellOld (h j v hv) (by rw [block_add]; exact hS)
theorem Cells.at {w:World} {ad:Addr} {cs:List Value} (h:Cells w0 ad cs) (ho:Own w0 [] w l):Cells w ad cs:=fun j v hv=>ho.cellOld (h j v hv) (by simp)
theorem Own.blkCells {w:World} (ho:Own w0 S w l) (i:Nat) {b:Nat} {cs:List Value} {t:TypeId} (hi:l[i]? = some (.blk b cs t)):Cells w ⟨b,0,none⟩ cs:=fun j v hv=>by
 rw [Addr.add_lit,Nat.zero_add]; exact ho.blkCell i hi hv
end
section
variable {dm:List Deferred} {P:Program} {n:Nat} {Q:Exit→Act→World→Prop} {K:Act→World→Prop} {e:Env} {w0:World} {S:List Nat} {l:List HL} {d:Nat} {ty:TypeId} {pos:String} {aft:Array Edge} {gd:Option (Nat × Bool)}
theorem Za9 {t ty E:TypeId} {z:Value} {size bytes:Nat} (hu:P.underlying t=some (.slice E)) (ht:TyF P E z size bytes) {w:World} {r:Option Nat} {m cap:Nat} {xs:List Value} (hh:HL.holds w (.row E size r m cap xs)) (c:Nat) :
    (Builtin.append_ #[t,t] ty #[.slice (rowA r) m cap,.slice none 0 c]).run P w=.ok (.slice (rowA r) m cap) w:=by
  obtain ⟨i,hi1,hi2,hi3,hi4⟩:=ht.ex
  have hmc:m≤cap:=by
    cases r with
    | none=>obtain ⟨_,rfl,rfl⟩:=hh; exact Nat.le_refl _
    | some g=>obtain ⟨_,cur,_,h,_⟩:=hh; exact h
  cases r with
  | none=>simp [Builtin.append_,run_underlying hu,sizeOf,typeInfo,hi1,Builtin.lenOf,Builtin.firstCells,rowA,hmc]
  | some g=>simp [Builtin.append_,run_underlying hu,sizeOf,typeInfo,hi1,Builtin.lenOf,Builtin.firstCells,rowA,hmc,storeCells]
theorem Jy (i:Nat) {t E:TypeId} {z:Value} {size bytes:Nat} {x y:Operand} {r:Option Nat} {m cap:Nat} {xs:List Value} {a:Option Addr} {mm c:Nat} {news:List Value} (hsl:OldSl w0 S a mm size news) (hu:P.underlying t=some (.slice E)) (ht:TyF P E z size bytes)
    (hzs:z.cells.size=size) (hsz:0<size) (hd:Nat.ble n d=false) (hx:e.ev x=some (.slice (rowA r) m cap)) (hy:e.ev y=some (.slice a mm c)) (hi:l[i]? = some (.row E size r m cap xs))
    (h1:∀ u∈news,u.oneCell'=true) (hb:(m+mm) * bytes≤140737488355328) (h63:m+mm≤9223372036854775807) {lf:HL→List HL} (hl':∀ y,l.set i y=lf y)
    (k:∀ r' cap',GK dm n K ((d,.slice (rowA r') (m+mm) cap')::e) w0 S (lf (.row E size r' (m+mm) cap' (xs++news)))) :
    GK dm n (fun a w=>Oper.wp P ⟨some d,.call { callee:=.builtin .append,args:=#[x,y],argTypes:=#[t,t] },ty,pos,aft,gd⟩ a w K Q) e w0 S l:=by
  cases a with
  | some ad=>exact Zem i hu ht hzs hsz hd hx hy hi hsl.len (fun w ho=>(hsl.at ho).cells) h1 hb h63 hl' k
  | none =>
    have hmm:mm=0:=by
      rcases Nat.eq_zero_or_pos mm with h | h
      · exact h
      · have:=hsl.isSome h; cases this
    subst hmm
    have hnews:news=[]:=List.eq_nil_of_length_eq_zero (by simpa using hsl.len)
    subst hnews
    have hset:l.set i (.row E size r m cap xs)=l:=by
      apply List.ext_getElem?
      intro j
      rw [List.getElem?_set]
      split
      · rename_i h; subst h
        split
        · exact hi.symm
        · rename_i h2; simp [List.getElem?_eq_none (by omega:l.length≤i)] at hi
      · rfl
    have k':=k r cap
    rw [← hl',List.append_nil,Nat.add_zero,hset] at k'
    intro ac w hs ho
    have hh:=ho.holds _ (List.mem_of_getElem? hi)
    have hr:=Za9 (P:=P) (t:=t) (ty:=ty) hu ht hh c
    have hr2:(execOp ac.eval ⟨some d,.call { callee:=.builtin .append,args:=#[x,y],argTypes:=#[t,t] },ty,pos,aft,gd⟩).run P w=.ok (.value (.slice (rowA r) m cap)) w:=by
      simp [execOp,resolve,invoke,builtin,hs.ev hx,hs.ev hy,hr]
    exact XD hr2 (k' _ _ (hs.put (Xx hd) _) ho)
end
theorem Va {n:Nat} (h:n<18446744073709551616):IntKind.u64.wrap (n:Int)=(n:Int):=by
 unfold IntKind.wrap
 simp only [IntKind.signed,IntKind.bits,Bool.false_and,if_false,Bool.false_eq_true]
 exact Int.emod_eq_of_lt (by omega) (by omega)
theorem Zly {α:Type} (f:α→List Value) (m:Nat) (hf:∀ x,(f x).length=m) (zs:List α):(zs.flatMap f).length=zs.length * m:=by
 induction zs with
 | nil=>simp
 | cons z zs ih=>simp [List.flatMap_cons,hf,ih,Nat.add_mul,Nat.add_comm]
theorem Zen {α:Type} (f:α→List Value) (m:Nat) (hf:∀ x,(f x).length=m) (d:α):∀ (zs:List α) (k:Nat),k<zs.length→((zs.flatMap f).drop (k * m)).take m=f (zs.getD k d)
  | [],k,h=>by simp at h
  | z::zs,0,h=>by
    have:=hf z
    subst this
    simp [List.flatMap_cons]
  | z::zs,k+1,h=>by
    have ih:=Zen f m hf d zs k (by simpa using h)
    have h2:(k+1) * m=(f z).length+k * m:=by rw [hf,Nat.add_mul,Nat.one_mul,Nat.add_comm]
    rw [List.flatMap_cons,h2,← List.drop_drop,List.drop_left]
    simpa using ih
theorem Yf {α:Type} (f:α→List Value) (m:Nat) (hf:∀ x,(f x).length=m) {zs:List α} {k:Nat} {x:α} (h:zs[k]? = some x):((zs.flatMap f).drop (k * m)).take m=f x:=by
 have hlt:k<zs.length:=(List.getElem?_eq_some_iff.1 h).1
 rw [Zen f m hf x zs k hlt]
 simp [List.getD,h]
theorem flat_get {α:Type} (f:α→List Value) (m:Nat) (hf:∀ x,(f x).length=m) (d:α) (zs:List α) (k j:Nat) (h:k<zs.length) (hj:j<m):(zs.flatMap f)[k * m+j]? = (f (zs.getD k d))[j]?:=by
 have h1:=Zen f m hf d zs k h
 have h2:(((zs.flatMap f).drop (k * m)).take m)[j]? = (f (zs.getD k d))[j]?:=by rw [h1]
 rw [List.getElem?_take,if_pos hj,List.getElem?_drop] at h2
 exact h2
def lk (k:Int):List (Int × Int)→Option Int
  | []=>none
  | (a,v)::l=>if k=a then some v else lk k l
section
variable {dm:List Deferred} {P:Program} {n:Nat} {Q:Exit→Act→World→Prop} {K:Act→World→Prop} {e:Env} {w0:World} {S:List Nat} {l:List HL} {d:Nat} {dst:Option Nat} {ty:TypeId} {pos:String} {aft:Array Edge} {gd:Option (Nat × Bool)}
theorem Ziv {q:IntKind} {kt:TypeId} (hk:P.underlying kt=some (.int q)) (k:Int) (b:Bool) (w:World) (N:Nat):(Instr.checkKey b (N+1) kt (.int .i64 k)).run P w=.ok () w:=by
 unfold Instr.checkKey
 simp only [Sem.run_bind,run_underlying hk,Result.andThen_ok]
 rfl
theorem run_checkKey {q:IntKind} {kt:TypeId} (hk:P.underlying kt=some (.int q)) (k:Int) (b:Bool) (w:World):(Instr.checkKey b 10000 kt (.int .i64 k)).run P w=.ok () w:=Ziv hk k b w 9999
end
section
variable {dm:List Deferred} {P:Program} {n:Nat} {Q:Exit→Act→World→Prop} {K:Act→World→Prop} {e:Env} {w0:World} {S:List Nat} {l:List HL} {d:Nat} {dst:Option Nat} {ty:TypeId} {pos:String} {aft:Array Edge} {gd:Option (Nat × Bool)}
theorem ZZ {c:Code} {ι:Type} (F:Env) (Lk:List HL) (p:ι→Prop) (E:ι→Env→Env) (L:ι→List HL→List HL) (m:ι→Nat) (j0:ι) (hp:p j0) (he:Env.le (E j0 F) e) (hl:Sub (L j0 Lk) l)
    (body:∀ j,p j→GK dm n (c.wp P (Exit.then (fun a w=>∃ j',(p j'∧m j'<m j)∧Sat dm n a (E j' F)∧Own w0 S w (L j' Lk)) Q)) (E j F) w0 S (L j Lk)) :
    GK dm n ((Code.loop c).wp P Q) e w0 S l :=
  gc_loop p (fun j=>E j F) (fun j=>L j Lk) m j0 hp he hl body
theorem YX {a:Option Addr} {m size off:Nat} {cells:List Value} {v:Value} (h:OldSl w0 S a m size cells) (hv:cells[off]? = some v):∀ w,Own w0 S w l→w.cell? ((adr a).add (off:Int).toNat)=some v:=ld_sl h hv
theorem WU (i:Nat) {E:TypeId} {sz:Nat} {a:Option Nat} {m cap:Nat} {xs:List Value} {off:Nat} {v:Value} (hi:l[i]? = some (.row E sz a m cap xs)) (hv:xs[off]? = some v):∀ w,Own w0 S w l→w.cell? ⟨a.getD 0,(off:Int).toNat,none⟩=some v:=ld_row i hi hv
theorem Zkp {ps:List Nat} {k:Nat} (h:k<ps.length):(ps.map fun n:Nat=>Value.int .u8 (n:Int))[k]? = some (.int .u8 ((ps.getD k 0:Nat):Int)):=by simp [h]
variable {t ty':TypeId} {x y:Operand} {k:IntKind} {a b:Nat}
theorem ZL (hx:e.ev x=some (.int .i64 a)) (hy:e.ev y=some (.int .i64 b)) (h:a+b≤9223372036854775807):Rd P dm n e w0 S l ⟨dst,.binOp .add t x y ty',ty,pos,aft,gd⟩ (.int .i64 ((a+b:Nat):Int)):=by
 rw [Int.natCast_add]; exact XR hx hy (by omega) (by omega)
theorem XX (hx:e.ev x=some (.int .i64 a)) (hy:e.ev y=some (.int .i64 b)) (h:a * b≤9223372036854775807):Rd P dm n e w0 S l ⟨dst,.binOp .mul t x y ty',ty,pos,aft,gd⟩ (.int .i64 ((a * b:Nat):Int)):=by
 have h2:(a:Int) * b=((a * b:Nat):Int):=(Int.natCast_mul a b).symm
 rw [← h2]; exact Zgy hx hy (by omega) (by omega)
theorem Jz (hx:e.ev x=some (.int .i64 a)) (hy:e.ev y=some (.int .i64 b)) (h:b≤a) (h2:a≤9223372036854775807):Rd P dm n e w0 S l ⟨dst,.binOp .sub t x y ty',ty,pos,aft,gd⟩ (.int .i64 ((a - b:Nat):Int)):=by
 rw [Int.natCast_sub h]; exact WX hx hy (by omega) (by omega)
theorem Vb (hx:e.ev x=some (.int k a)) (hy:e.ev y=some (.int k b)) (h:1≤b):Rd P dm n e w0 S l ⟨dst,.binOp .rem t x y ty',ty,pos,aft,gd⟩ (.int k ((a % b:Nat):Int)):=by
 have h2:((a % b:Nat):Int)=(a:Int) % b:=Int.natCast_emod a b
 rw [h2]; exact Zog hx hy (by omega) (by omega)
theorem JA (hx:e.ev x=some (.int .i64 a)) (hy:e.ev y=some (.int .i64 b)) (h:1≤b) (h2:a≤9223372036854775807):Rd P dm n e w0 S l ⟨dst,.binOp .quo t x y ty',ty,pos,aft,gd⟩ (.int .i64 ((a / b:Nat):Int)):=by
 have h2:((a / b:Nat):Int)=(a:Int) / b:=Int.natCast_ediv a b
 rw [h2]; exact rd_quo hx hy (by omega) (by omega) (by omega)
end
section
variable {dm:List Deferred} {P:Program} {n:Nat} {e:Env} {w0:World} {S:List Nat} {l:List HL} {ops:Array Oper} {z:Bool} {h0:Nat} {QN:Act→World→Prop} {lc:List HL} {f:Nat} {listed:Array Bool}
end
abbrev Xy (z:Int):Value:=.int .i64 z
abbrev natV (z:Nat):Value:=.int .i64 (z:Int)
abbrev boolV (b:Bool):Value:=.bool b
def RV (v0:Value):Value→List HL→Prop:=fun v l=>v=v0∧l=[]
theorem snocN (xs:List Nat) (q:Nat):xs.map natV++[natV q]=(xs++[q]).map natV:=by simp
theorem snoc_len {α:Type} (xs:List α) (q:α):xs.length+1=(xs++[q]).length:=by simp
theorem Zfn {α:Type} (d:α) {xs:List α} {x:α} (h:x∈xs):∃ i,i<xs.length∧xs.getD i d=x:=by
 obtain ⟨i,hi⟩:=List.mem_iff_getElem?.1 h
 obtain ⟨h1,h2⟩:=List.getElem?_eq_some_iff.1 hi
 exact ⟨i,h1,by simp [h1,h2]⟩
theorem getD_set {α:Type} {d:α} (l:List α) (i k:Nat) (a:α) (h:i<l.length):(l.set i a).getD k d=if i=k then a else l.getD k d:=by
 simp only [List.getD_eq_getElem?_getD,List.getElem?_set,h]
 split <;> simp
theorem setN (ts:List Nat) (k x:Nat):(ts.map natV).set k (natV x)=(ts.set k x).map natV:=by rw [List.map_set]
theorem get_some {α:Type} {xs:List α} {k:Nat} (h:k<xs.length):∃ x,xs[k]? = some x:=⟨xs[k],List.getElem?_eq_getElem h⟩
theorem getD_some {α:Type} {d:α} {xs:List α} {k:Nat} {x:α} (h:xs[k]? = some x):xs.getD k d=x:=by simp [List.getD,h]
theorem drop_at {α:Type} {xs:List α} {i:Nat} {x:α} (hx:xs[i]? = some x):xs.drop i=x::xs.drop (i+1):=by
 have h:i<xs.length:=(List.getElem?_eq_some_iff.1 hx).1
 rw [List.drop_eq_getElem_cons h,(List.getElem?_eq_some_iff.1 hx).2]
theorem take_at {α:Type} {xs:List α} {i:Nat} {x:α} (hx:xs[i]? = some x):xs.take (i+1)=xs.take i++[x]:=by
 have h:i<xs.length:=(List.getElem?_eq_some_iff.1 hx).1
 rw [List.take_succ_eq_append_getElem h,(List.getElem?_eq_some_iff.1 hx).2]
theorem Y0 {α:Type} (f:α→List Value) (m:Nat) (hf:∀ x,(f x).length=m) {zs:List α} {k j:Nat} {x:α} (h:zs[k]? = some x) (hj:j<m) {v:Value} (hv:(f x)[j]? = some v):(zs.flatMap f)[k * m+j]? = some v:=by
 have hlt:k<zs.length:=(List.getElem?_eq_some_iff.1 h).1
 rw [flat_get f m hf x zs k j hlt hj]
 rw [show zs.getD k x=x from by simp [List.getD,h]]
 exact hv
section
variable {dm:List Deferred} {P:Program} {n:Nat} {Q:Exit→Act→World→Prop} {K:Act→World→Prop} {e:Env} {w0:World} {S:List Nat} {l:List HL} {d:Nat} {dst:Option Nat} {ty:TypeId} {pos:String} {aft:Array Edge} {gd:Option (Nat × Bool)}
theorem rd_max2 {x y:Operand} {k:IntKind} {p q:Int} {ats:Array TypeId} (hx:e.ev x=some (.int k p)) (hy:e.ev y=some (.int k q)) :
    Rd P dm n e w0 S l ⟨dst,.call { callee:=.builtin .max,args:=#[x,y],argTypes:=ats },ty,pos,aft,gd⟩ (.int k (max p q)) :=
  fun a w hs ho=>by
    have e1:(if q > p then q else p)=max p q:=by split <;> omega
    simp [execOp,resolve,invoke,builtin,hs.ev hx,hs.ev hy,Builtin.max_,Builtin.max2]
    exact e1
theorem Wj {P:Program} {w:World} {k:IntKind} {i:Int} {cap:Nat} {b:BoundsCode} (h0:0≤i) (h1:i≤cap):(Instr.sliceBound (.int k i) cap b).run P w=.ok i.toNat w:=by
 simp [Instr.sliceBound,asIntOf,h0,h1]
def Zcq (a:Option Addr) (cap k size:Nat):Option Addr:=if cap=k then a else a.map (·.add (k * size))
theorem Zaq {t E:TypeId} {z:Value} {size bytes:Nat} {x y:Operand} {a:Option Addr} {m cap:Nat} {k:IntKind} {i:Int} (hu:P.underlying t=some (.slice E)) (ht:TyF P E z size bytes) (hx:e.ev x=some (.slice a m cap)) (hy:e.ev y=some (.int k i)) (h0:0≤i) (h1:i≤m) :
    Rd P dm n e w0 S l ⟨dst,.slice t x (some y) none none,ty,pos,aft,gd⟩ (.slice (Zcq a cap i.toNat size) (m - i.toNat) (cap - i.toNat)) :=
  fun ac w hs ho=>by
    simp [execOp,hs.ev hx,hs.ev hy,Instr.sliceAt,Instr.slice,Instr.sliceBounds,run_underlying hu,Wj h0 h1,ht.runSize,Zcq]
theorem Jg {t E:TypeId} {z:Value} {size bytes:Nat} {x y:Operand} {a:Option Addr} {m cap:Nat} {k:IntKind} {i:Int} (hu:P.underlying t=some (.slice E)) (ht:TyF P E z size bytes) (hx:e.ev x=some (.slice a m cap)) (hy:e.ev y=some (.int k i)) (h0:0≤i) (h1:i≤cap) :
    Rd P dm n e w0 S l ⟨dst,.slice t x none (some y) none,ty,pos,aft,gd⟩ (.slice a i.toNat cap) :=
  fun ac w hs ho=>by
    have e1:(if cap=0 then a else a.map (·.add (0 * size)))=a:=by
      split
      · rfl
      · cases a <;> simp [Addr.add]
    simp [execOp,hs.ev hx,hs.ev hy,Instr.sliceAt,Instr.slice,Instr.sliceBounds,run_underlying hu,Wj h0 h1,ht.runSize]
    simpa using e1
theorem OldSl.drop {w:World} {a:Option Addr} {m size cap:Nat} {cells:List Value} (h:OldSl w S a m size cells) (k:Nat) (hk:k≤m) (hc:m≤cap):OldSl w S (Zcq a cap k size) (m - k) size (cells.drop (k * size)):=by
 refine ⟨by rw [List.length_drop,h.len,Nat.sub_mul],fun hp=>?_,fun j v hv=>?_,fun hp=>?_⟩
 ·have:=h.isSome (by omega)
  unfold Zcq; rw [if_neg (by omega)]
  cases a with
  | none=>cases this
  | some ad=>rfl
 ·rw [List.getElem?_drop] at hv
  have hj:=(List.getElem?_eq_some_iff.1 hv).1
  rw [h.len] at hj
  have hlt:k<m:=by
   rcases Nat.lt_or_ge k m with h2 | h2
   ·exact h2
   ·have:=Nat.mul_le_mul_right size h2; omega
  have h2:=h.cells _ _ hv
  have:=h.isSome (by omega)
  unfold Zcq; rw [if_neg (by omega)]
  cases a with
  | none=>cases this
  | some ad =>
   show w.cell? ((ad.add (k * size)).add j)=some v
   rw [add_add]; exact h2
 ·have h2:=h.out (by omega)
  have:=h.isSome (by omega)
  unfold Zcq; rw [if_neg (by omega)]
  cases a with
  | none=>cases this
  | some ad =>
   show (ad.add (k * size)).block ∉ S
   rw [block_add]; exact h2
theorem OldSl.take {w:World} {a:Option Addr} {m size:Nat} {cells:List Value} (h:OldSl w S a m size cells) (k:Nat) (hk:k≤m):OldSl w S a k size (cells.take (k * size)):=by
 refine ⟨by rw [List.length_take,h.len,Nat.min_eq_left (Nat.mul_le_mul_right size hk)],fun hp=>h.isSome (by omega),fun j v hv=>?_,fun hp=>h.out (by omega)⟩
 rw [List.getElem?_take] at hv
 split at hv
 ·exact h.cells j v hv
 ·cases hv
theorem Zg3 (w:World) (S:List Nat) (size:Nat):OldSl w S none 0 size []:=⟨by simp,fun h=>absurd h (by decide),fun j v hv=>by simp at hv,fun h=>absurd h (by decide)⟩
def KV (es:List MapEntry) (m:List (Int × Value)):Prop:=es.map (fun x=>(x.key,x.val))=m.map fun p=>(Value.int .i64 p.1,p.2)
def lkv (k:Int):List (Int × Value)→Option Value
  | []=>none
  | (a,v)::l=>if k=a then some v else lkv k l
theorem KV.nil : KV [] []:=rfl
theorem KV.snoc {es:List MapEntry} {m:List (Int × Value)} (h:KV es m) (k:Int) (v:Value) (nb:Nat):KV (es++[⟨.int .i64 k,v,nb⟩]) (m++[(k,v)]):=by
 unfold KV at *; rw [List.map_append,List.map_append,h]; rfl
theorem Zg4 (q:IntKind) (k:Int):∀ (es:List MapEntry) (m:List (Int × Value)) (i:Nat),KV es m→∃ j,Instr.findNow (.int q) (.int .i64 k) es i=some ((lkv k m).map fun v=>(j,v))
  | [],[],i,_=>⟨0,rfl⟩
  | [],_::_,i,h=>by simp [KV] at h
  | _::_,[],i,h=>by simp [KV] at h
  | x::es,(a,v)::m,i,h=>by
    simp only [KV,List.map_cons,List.cons.injEq,Prod.mk.injEq] at h
    obtain ⟨⟨hk,hv⟩,hr⟩:=h
    obtain ⟨xk,xv,xb⟩:=x
    simp only at hk hv
    subst hk; subst hv
    by_cases hka:k=a
    · subst hka; exact ⟨i,by simp [lkv,Instr.findNow,Instr.sameNow]⟩
    · obtain ⟨j,hj⟩:=Zg4 q k es m (i+1) hr
      have h':(k == a)=false:=by simp [hka]
      exact ⟨j,by simp [lkv,Instr.findNow,Instr.sameNow,hka,h',hj]⟩
theorem Zkq {q:IntKind} {kt:TypeId} (hk:P.underlying kt=some (.int q)) (k:Int) {es:List MapEntry} {m:List (Int × Value)} (hm:KV es m) (w:World):∃ j,(Instr.findKey kt (.int .i64 k) es).run P w=.ok ((lkv k m).map fun v=>(j,v)) w:=by
 obtain ⟨j,hj⟩:=Zg4 q k es m 0 hm
 exact ⟨j,by simp [Instr.findKey,run_underlying hk,hj]⟩
theorem Zfo {q:IntKind} {t kt et:TypeId} {z:Value} {b:Nat} {es:List MapEntry} {nb:Nat} {m:List (Int × Value)} {k:Int} {w:World} {size bytes:Nat} (hu:P.underlying t=some (.map kt et)) (hk:P.underlying kt=some (.int q)) (ht:TyF P et z size bytes) (hb:w.heap[b]? = some (.map es.toArray nb)) (hm:KV es m) (ok:Bool) :
    (Instr.lookup t (.map (some b)) (.int .i64 k) ok).run P w=.ok (if ok then .tuple #[(lkv k m).getD z,.bool (lkv k m).isSome] else (lkv k m).getD z) w:=by
  obtain ⟨j,hj⟩:=Zkq (P:=P) hk k hm w
  have h1:=MapKept.run_getObj_map (P:=P) hb
  cases h:lkv k m with
  | none =>
    rw [h] at hj
    simp [Instr.lookup,run_underlying hu,h1,run_checkKey hk,hj,ht.runZero]
  | some v =>
    rw [h] at hj
    simp [Instr.lookup,run_underlying hu,h1,run_checkKey hk,hj]
theorem Zkr (j:Nat) {q:IntKind} {t kt et:TypeId} {x y:Operand} {z:Value} {b:Nat} {es:List MapEntry} {nb:Nat} {m:List (Int × Value)} {k:Int} {size bytes:Nat} (hm:KV es m) (hj:l[j]? = some (.obj b (.map es.toArray nb))) (hu:P.underlying t=some (.map kt et)) (hk:P.underlying kt=some (.int q)) (ht:TyF P et z size bytes) (hx:e.ev x=some (.map (some b))) (hy:e.ev y=some (.int .i64 k)) :
    Rd P dm n e w0 S l ⟨dst,.lookup t x y true,ty,pos,aft,gd⟩ (.tuple #[(lkv k m).getD z,.bool (lkv k m).isSome]) :=
  fun a w hs ho=>by
    have hb:w.heap[b]? = some (.map es.toArray nb):=ho.holds _ (List.mem_of_getElem? hj)
    have:=Zfo (P:=P) (z:=z) (k:=k) hu hk ht hb hm true
    simp only [if_true] at this
    simp [execOp,hs.ev hx,hs.ev hy,this]
theorem Zoj (j:Nat) {q:IntKind} {t kt et:TypeId} {x y:Operand} {z:Value} {b:Nat} {es:List MapEntry} {nb:Nat} {m:List (Int × Value)} {k:Int} {size bytes:Nat} (hm:KV es m) (hj:l[j]? = some (.obj b (.map es.toArray nb))) (hu:P.underlying t=some (.map kt et)) (hk:P.underlying kt=some (.int q)) (ht:TyF P et z size bytes) (hx:e.ev x=some (.map (some b))) (hy:e.ev y=some (.int .i64 k)) :
    Rd P dm n e w0 S l ⟨dst,.lookup t x y false,ty,pos,aft,gd⟩ ((lkv k m).getD z) :=
  fun a w hs ho=>by
    have hb:w.heap[b]? = some (.map es.toArray nb):=ho.holds _ (List.mem_of_getElem? hj)
    have:=Zfo (P:=P) (z:=z) (k:=k) hu hk ht hb hm false
    simp only [Bool.false_eq_true,if_false] at this
    simp [execOp,hs.ev hx,hs.ev hy,this]
theorem Zfp {t:TypeId} (hd:Nat.ble n d=false) (k:∀ b,GK dm n K ((d,.map (some b))::e) w0 S (.obj b (.map ([]:List MapEntry).toArray 0)::l)) :
    GK dm n (fun a w=>Oper.wp P ⟨some d,.makeMap t none,ty,pos,aft,gd⟩ a w K Q) e w0 S l:=fun a w hs ho=>by
  have hr:(execOp a.eval ⟨some d,.makeMap t none,ty,pos,aft,gd⟩).run P w=.ok (.value (.map (some w.heap.size))) (w.alloc (.map ([]:List MapEntry).toArray 0)):=by
    simp [execOp,Instr.makeMap]
  exact XD hr (k _ _ _ (hs.put (Xx hd) _) (ho.alloc (.obj w.heap.size (.map ([]:List MapEntry).toArray 0)) _ rfl (heap_alloc_new w _)))
theorem WK {α β:Type} {f g:α→Option β}:∀ {xs:List α},(∀ x∈xs,f x=g x)→xs.filterMap f=xs.filterMap g
  | [],_=>rfl
  | x::xs,h=>by
    rw [List.filterMap_cons,List.filterMap_cons,h x (by simp),WK fun y hy=>h y (List.mem_cons_of_mem _ hy)]
theorem Xd {α:Type}:∀ (T:List α),(List.range T.length).filterMap (fun i=>T[i]?)=T
  | []=>rfl
  | t::T=>by
    rw [List.length_cons,List.range_succ_eq_map,List.filterMap_cons]
    simp only [List.getElem?_cons_zero,List.filterMap_map]
    congr 1
    have:=Xd T
    simpa [Function.comp_def] using this
theorem ZS {A B T:List HL} (idx:List Nat) (m:Nat) (hi:idx.Nodup) (hlt:∀ i∈idx,i<m) (hm:B.length=m) (hA:A=pick idx B):Sub (A++T) (B++T):=by
 subst hm
 refine ⟨idx++(List.range T.length).map (· + B.length),?_,?_⟩
 ·rw [List.nodup_append]
  refine ⟨hi,?_,fun a ha b hb e=>?_⟩
  ·refine List.Pairwise.map _ (fun a b hab=>?_) List.nodup_range
   omega
  ·obtain ⟨q,_,rfl⟩:=List.mem_map.1 hb
   have:=hlt a ha
   omega
 ·subst hA
  unfold pick
  rw [List.filterMap_append]
  congr 1
  ·refine WK fun i hi2=>?_
   rw [List.getElem?_append_left (hlt i hi2)]
  ·rw [List.filterMap_map]
   have h2:((fun i=>(B++T)[i]?) ∘ (· + B.length))=fun i=>T[i]?:=funext fun i=>by
    simp [List.getElem?_append_right (show B.length≤i+B.length by omega)]
   rw [h2,Xd]
theorem ZW {fn:Func} {R:Value→List HL→Prop} {t:Tmp} {v:Value} {x:Exit} {l':List HL} (hx:x=.ret∨x=.normal) (hr:fn.results=#[.tmp t]) (hv:e.get t=some v) (hs:Sub l' l) (h:R v l'):GK [] n (bodyPost P fn (Zgb w0 S R) x) e w0 S l:=by
 obtain ⟨idx,hi,rfl⟩:=hs
 exact Zy hx hr hv idx hi h
end
section
variable {dm:List Deferred} {P:Program} {n:Nat} {Q:Exit→Act→World→Prop} {K:Act→World→Prop} {e:Env} {w0:World} {S:List Nat} {l:List HL} {d:Nat} {dst:Option Nat} {ty:TypeId} {pos:String} {aft:Array Edge} {gd:Option (Nat × Bool)}
theorem Zcb (i:Nat) {E:TypeId} {sz:Nat} {a:Option Nat} {m cap:Nat} {xs cs:List Value} {off k:Nat} (hi:l[i]? = some (.row E sz a m cap xs)) (hcs:(xs.drop (off * k)).take k=cs):∀ w,Own w0 S w l→Cells w ⟨a.getD 0,(off:Int).toNat * k,none⟩ cs:=Zek i hi hcs
theorem Vc {a:Option Addr} {m size off k:Nat} {cells cs:List Value} (h:OldSl w0 S a m size cells) (hcs:(cells.drop (off * k)).take k=cs):∀ w,Own w0 S w l→Cells w ((adr a).add ((off:Int).toNat * k)) cs:=Zi7 h hcs
end
section
variable {dm:List Deferred} {P:Program} {n:Nat} {Q:Exit→Act→World→Prop} {K:Act→World→Prop} {e:Env} {w0:World} {S:List Nat} {l:List HL} {d:Nat} {dst:Option Nat} {ty:TypeId} {pos:String} {aft:Array Edge} {gd:Option (Nat × Bool)}
theorem YB (i:Nat) {t E:TypeId} {z:Value} {bytes sz:Nat} {x y:Operand} {r:Option Nat} {m cap off:Nat} {xs ys:List Value} {v:Value} (ht:TyF P t z 1 bytes) (hx:e.ev x=some (.pointer (some ⟨r.getD 0,off,none⟩))) (hy:e.ev y=some v)
    (hv:v.oneCell'=true) (hi:l[i]? = some (.row E sz r m cap xs)) (hoff:off<xs.length) (hp:xs.set off v=ys) {l':List HL} (hl':l.set i (.row E sz r m cap ys)=l') (k:GK dm n K e w0 S l') :
    GK dm n (fun a w=>Oper.wp P ⟨none,.store t x y,ty,pos,aft,gd⟩ a w K Q) e w0 S l:=by
  subst hp
  exact Zfm i ht hx hy hv hi hoff hl' k
end
theorem Zks (A B:List HL):Sub (B++A) (A++B):=by
 refine ⟨(List.range B.length).map (· + A.length)++List.range A.length,?_,?_⟩
 ·rw [List.nodup_append]
  refine ⟨List.Pairwise.map _ (fun a b hab=>by omega) List.nodup_range,List.nodup_range,fun a ha b hb e=>?_⟩
  obtain ⟨q,_,rfl⟩:=List.mem_map.1 ha
  have:=List.mem_range.1 hb
  omega
 ·unfold pick
  rw [List.filterMap_append]
  congr 1
  ·rw [List.filterMap_map]
   have h2:((fun i=>(A++B)[i]?) ∘ (· + A.length))=fun i=>B[i]?:=funext fun i=>by
    simp [List.getElem?_append_right (show A.length≤i+A.length by omega)]
   rw [h2,Xd]
  ·refine (Xd A).symm.trans (WK fun i hi=>?_)
   rw [List.getElem?_append_left (List.mem_range.1 hi)]
section
variable {dm:List Deferred} {P:Program} {n:Nat} {K:Act→World→Prop} {e:Env} {w0:World} {S:List Nat} {l l':List HL}
theorem gk_sub (hl:Sub l' l) (h:GK dm n K e w0 S l'):GK dm n K e w0 S l:=fun a w hs ho=>h a w hs (ho.sub hl)
end
section
variable {dm:List Deferred} {P:Program} {n:Nat} {ops:Array Oper} {e:Env} {w0:World} {S:List Nat} {l lc:List HL} {z:Bool} {h0 f:Nat} {QN:Act→World→Prop} {listed:Array Bool}
end
theorem Ja (A T:List HL):pick ((List.range T.length).map (· + A.length)) (A++T)=T:=by
 unfold pick
 rw [List.filterMap_map]
 have h2:((fun i=>(A++T)[i]?) ∘ (· + A.length))=fun i=>T[i]?:=funext fun i=>by
  simp [List.getElem?_append_right (show A.length≤i+A.length by omega)]
 rw [h2,Xd]
theorem Zeo (A T:List HL):pick (List.range A.length) (A++T)=A:=by
 unfold pick
 refine (WK fun i hi=>?_).trans (Xd A)
 rw [List.getElem?_append_left (List.mem_range.1 hi)]
section
variable {dm:List Deferred} {P:Program} {n:Nat} {Q:Exit→Act→World→Prop} {K:Act→World→Prop} {e:Env} {w0:World} {S:List Nat} {l:List HL} {d:Nat} {ty:TypeId} {pos:String} {aft:Array Edge} {gd:Option (Nat × Bool)}
theorem Yn (A T:List HL) {F:FuncId} {vf vc:List Value} {x:Operand} {xs:List Operand} {at_:Array TypeId} {vs:List Value} {Sc:List Nat} {R:Value→List HL→Prop} (hl:l=A++T) (hd:Nat.ble n d=false) (hx:e.ev x=some (.func (.func F) vf.toArray vc.toArray)) (hxs:e.evs xs=some vs)
    (hcall:∀ args w,(callFunc F args).run P w=.ok (.enter F args) w) (hSc:Sc=T.filterMap HL.block)
    (hspec:∀ w,Own w0 S w (A++T)→Own w Sc w T→Sp P F (vf++vs++vc) w Sc R) (k:∀ v T',R v T'→GK dm n K ((d,v)::e) w0 S (A++T')) :
    GK dm n (fun a w=>Oper.wp P ⟨some d,.call { callee:=.value x,args:=xs.toArray,argTypes:=at_ },ty,pos,aft,gd⟩ a w K Q) e w0 S l:=by
  subst hl
  refine Yi ((List.range T.length).map (· + A.length)) (List.range A.length) hd hx hxs hcall ?_ (by rw [Ja]; exact hSc) (fun w ho hc=>hspec w ho (by rw [Ja] at hc; exact hc)) (fun v T' hR=>?_)
  · rw [List.nodup_append]
    refine ⟨List.Pairwise.map _ (fun a b hab=>by omega) List.nodup_range,List.nodup_range,fun a ha b hb e=>?_⟩
    obtain ⟨q,_,rfl⟩:=List.mem_map.1 ha
    have:=List.mem_range.1 hb
    omega
  · rw [Zeo]
    exact gk_sub (Zks T' A) (k v T' hR)
end
section
variable {dm:List Deferred} {P:Program} {n:Nat} {e:Env} {w0:World} {S:List Nat} {l l':List HL} {fn:Func} {R:Value→List HL→Prop}
end
section
variable {w0 w:World} {S:List Nat} {l:List HL}
theorem Cells.atS {ad:Addr} {cs:List Value} (h:Cells w0 ad cs) (ho:Own w0 S w l) (hS:ad.block ∉ S):Cells w ad cs:=fun j v hv=>ho.cellOld (h j v hv) (by rw [block_add]; exact hS)
theorem Own.rowSlT {A T:List HL} (ho:Own w0 S w (A++T)) (i:Nat) {E:TypeId} {sz:Nat} {r:Option Nat} {m cap:Nat} {xs:List Value} (hi:A[i]? = some (.row E sz r m cap xs)):OldSl w (T.filterMap HL.block) (rowA r) m sz xs:=by
 have hlt:i<A.length:=(List.getElem?_eq_some_iff.1 hi).1
 have hi2:(A++T)[i]? = some (.row E sz r m cap xs):=by rw [List.getElem?_append_left hlt]; exact hi
 have h:=ho.rowSl i hi2
 refine ⟨h.len,h.isSome,h.cells,fun hm hb=>?_⟩
 have h2:=h.isSome hm
 cases r with
 | none=>cases h2
 | some g =>
  obtain ⟨y,hy,hyb⟩:=List.mem_filterMap.1 hb
  obtain ⟨j,hj⟩:=List.getElem?_of_mem hy
  have hj2:(A++T)[j+A.length]? = some y:=by rw [List.getElem?_append_right (by omega)]; simpa using hj
  have:=W2 ho.nodup hi2 hj2 (b:=g) rfl hyb
  omega
theorem Own.blkOutT {A T:List HL} (ho:Own w0 S w (A++T)) (i:Nat) {b:Nat} {cs:List Value} {t:TypeId} (hi:A[i]? = some (.blk b cs t)):b ∉ T.filterMap HL.block:=by
 have hlt:i<A.length:=(List.getElem?_eq_some_iff.1 hi).1
 have hi2:(A++T)[i]? = some (.blk b cs t):=by rw [List.getElem?_append_left hlt]; exact hi
 intro hb
 obtain ⟨y,hy,hyb⟩:=List.mem_filterMap.1 hb
 obtain ⟨j,hj⟩:=List.getElem?_of_mem hy
 have hj2:(A++T)[j+A.length]? = some y:=by rw [List.getElem?_append_right (by omega)]; simpa using hj
 have:=W2 ho.nodup hi2 hj2 (b:=b) rfl hyb
 omega
theorem OldSl.atTail {A T:List HL} {a:Option Addr} {m size:Nat} {cells:List Value} (h:OldSl w0 [] a m size cells) (ho:Own w0 [] w (A++T)) (hs:0<size):OldSl w (T.filterMap HL.block) a m size cells :=
  h.atS ho hs (fun b hb=>by
    obtain ⟨y,hy,hyb⟩:=List.mem_filterMap.1 hb
    rcases ho.place y (List.mem_append.2 (.inr hy)) b hyb with h | h
    · cases h
    · exact h)
end
abbrev u8V (z:Nat):Value:=.int .u8 (z:Int)
theorem XY {zs:List Nat} {k z:Nat} (h:zs[k]? = some z):(zs.map u8V)[k]? = some (u8V z):=by rw [List.getElem?_map,h]; rfl
theorem Zkt (zs:List Nat):∀ u∈zs.map u8V,u.oneCell'=true:=fun u hu=>by
 obtain ⟨z,_,rfl⟩:=List.mem_map.1 hu; rfl
section
variable {dm:List Deferred} {P:Program} {n:Nat} {e:Env} {w0:World} {S:List Nat} {l:List HL} {dst:Option Tmp} {ty:TypeId} {pos:String} {aft:Array Edge} {gd:Option (Nat × Bool)} {x y:Operand} {t ty':TypeId}
theorem Zi8 {z:Int} (h1:0≤z) (h2:z<256):IntKind.u8.wrap z=z:=by
 unfold IntKind.wrap
 simp only [IntKind.signed,IntKind.bits,Bool.false_and,if_false,Bool.false_eq_true]
 exact Int.emod_eq_of_lt h1 (by simpa using h2)
theorem Zp0 (a b:Nat) (ha:a<256) (hb:b<256) (f:Nat→Nat→Nat) (g:(k:Nat)→BitVec k→BitVec k→BitVec k) (hg:∀ x y:BitVec 8,(g 8 x y).toNat=f x.toNat y.toNat) (hf:f a b<256) :
    IntKind.u8.wrap ((g 8 (BitVec.ofInt 8 (a:Int)) (BitVec.ofInt 8 (b:Int))).toNat:Int)=(f a b:Nat):=by
  have e1:(BitVec.ofInt 8 (a:Int)).toNat=a:=by simp; omega
  have e2:(BitVec.ofInt 8 (b:Int)).toNat=b:=by simp; omega
  rw [hg,e1,e2]
  exact Zi8 (by omega) (by omega)
theorem Zdi {a b:Nat} (hx:e.ev x=some (.int .u8 a)) (hy:e.ev y=some (.int .u8 b)) (ha:a<256) (hb:b<256):Rd P dm n e w0 S l ⟨dst,.binOp .and t x y ty',ty,pos,aft,gd⟩ (.int .u8 ((a &&& b:Nat):Int)) :=
  Wm hx hy (by decide) fun w=>by
    have:=Zp0 a b ha hb (· &&& ·) (fun _ x y=>x &&& y) (fun _ _=>BitVec.toNat_and ..) (Nat.lt_of_le_of_lt Nat.and_le_left ha)
    exact congrArg (fun z=>Result.ok (Value.int .u8 z) w) this
theorem Zep {a b:Nat} (hx:e.ev x=some (.int .u8 a)) (hy:e.ev y=some (.int .u8 b)) (ha:a<256) (hb:b<256):Rd P dm n e w0 S l ⟨dst,.binOp .or t x y ty',ty,pos,aft,gd⟩ (.int .u8 ((a ||| b:Nat):Int)) :=
  Wm hx hy (by decide) fun w=>by
    have:=Zp0 a b ha hb (· ||| ·) (fun _ x y=>x ||| y) (fun _ _=>BitVec.toNat_or ..) (Nat.or_lt_two_pow (n:=8) ha hb)
    exact congrArg (fun z=>Result.ok (Value.int .u8 z) w) this
theorem J3 {E:TypeId} {z:Value} {size bytes:Nat} {u:Operand} {a:Option Addr} {m cap:Nat} {k k2:IntKind} {i j:Int} (hu:P.underlying t=some (.slice E)) (ht:TyF P E z size bytes) (hx:e.ev x=some (.slice a m cap)) (hy:e.ev y=some (.int k i)) (hz:e.ev u=some (.int k2 j)) (h0:0≤i) (h1:i≤j) (h2:j≤cap) :
    Rd P dm n e w0 S l ⟨dst,.slice t x (some y) (some u) none,ty,pos,aft,gd⟩ (.slice (Zcq a cap i.toNat size) (j.toNat - i.toNat) (cap - i.toNat)) :=
  fun ac w hs ho=>by
    have e1:(Instr.sliceBound (.int k i) j.toNat .sliceB).run P w=.ok i.toNat w:=Wj h0 (by omega)
    have e2:(Instr.sliceBound (.int k2 j) cap .sliceAcap).run P w=.ok j.toNat w:=Wj (by omega) h2
    simp [execOp,hs.ev hx,hs.ev hy,hs.ev hz,Instr.sliceAt,Instr.slice,Instr.sliceBounds,run_underlying hu,e1,e2,ht.runSize,Zcq]
theorem Zi9 {E:TypeId} {z:Value} {size bytes:Nat} {u:Operand} {a:Option Addr} {m cap:Nat} {k k2:IntKind} {i j:Int} (hu:P.underlying t=some (.slice E)) (ht:TyF P E z size bytes) (hx:e.ev x=some (.slice a m cap)) (hy:e.ev y=some (.int k i)) (hz:e.ev u=some (.int k2 j)) (h0:0≤i) (h1:i≤j) (h2:j≤cap) :
    Rd P dm n e w0 S l ⟨dst,.slice t x none (some y) (some u),ty,pos,aft,gd⟩ (.slice a i.toNat j.toNat) :=
  fun ac w hs ho=>by
    have e1:(Instr.sliceBound (.int k i) j.toNat .slice3B).run P w=.ok i.toNat w:=Wj h0 (by omega)
    have e2:(Instr.sliceBound (.int k2 j) cap .slice3Acap).run P w=.ok j.toNat w:=Wj (by omega) h2
    have e3:(if j.toNat=0 then a else a.map (·.add (0 * size)))=a:=by
      split
      · rfl
      · cases a <;> simp [Addr.add]
    simp [execOp,hs.ev hx,hs.ev hy,hs.ev hz,Instr.sliceAt,Instr.slice,Instr.sliceBounds,run_underlying hu,e1,e2,ht.runSize]
    simpa using e3
theorem Ziw {E:TypeId} (d:Nat) (hu:P.underlying t=some (.slice E)) (a:Option Addr) (m c m2 c2:Nat) (w:World):(Op.equalIn (d+1) t (.slice a m c) (.slice none m2 c2)).run P w=.ok a.isNone w:=by
 simp only [Op.equalIn,Sem.run_bind,run_underlying hu,Result.andThen_ok]
 cases a <;> rfl
theorem Zcs {E:TypeId} (d:Nat) (hu:P.underlying t=some (.pointer E)) (a:Option Addr) (w:World):(Op.equalIn (d+1) t (.pointer a) (.pointer none)).run P w=.ok a.isNone w:=by
 simp only [Op.equalIn,Sem.run_bind,run_underlying hu,Result.andThen_ok]
 cases a <;> rfl
theorem JB {E:TypeId} {a:Option Addr} {m c m2 c2:Nat} (hgt:P.eqGuardType P.depth t=false) (hu:P.underlying t=some (.slice E)) (hx:e.ev x=some (.slice a m c)) (hy:e.ev y=some (.slice none m2 c2)):Rd P dm n e w0 S l ⟨dst,.binOp .eql t x y ty',ty,pos,aft,gd⟩ (.bool a.isNone) :=
  fun ac w hs ho=>by
    have h:=Ziw (P:=P) 9999 hu a m c m2 c2 w
    have h2:(Op.equal t (.slice a m c) (.slice none m2 c2)).run P w=.ok a.isNone w:=h
    simp [execOp,hs.ev hx,hs.ev hy,eqGuard,binOp,hgt,h2]
theorem X6 {E:TypeId} {a:Option Addr} (hgt:P.eqGuardType P.depth t=false) (hu:P.underlying t=some (.pointer E)) (hx:e.ev x=some (.pointer a)) (hy:e.ev y=some (.pointer none)):Rd P dm n e w0 S l ⟨dst,.binOp .eql t x y ty',ty,pos,aft,gd⟩ (.bool a.isNone) :=
  fun ac w hs ho=>by
    have h:=Zcs (P:=P) 9999 hu a w
    have h2:(Op.equal t (.pointer a) (.pointer none)).run P w=.ok a.isNone w:=h
    simp [execOp,hs.ev hx,hs.ev hy,eqGuard,binOp,hgt,h2]
end
section
variable {dm:List Deferred} {P:Program} {n:Nat} {Q:Exit→Act→World→Prop} {K:Act→World→Prop} {e:Env} {w0:World} {S:List Nat} {l:List HL}
theorem gc_scope {c:Code} (h:GK dm n (c.wp P (Exit.noGoto Q)) e w0 S l):GK dm n ((Code.scope c).wp P Q) e w0 S l:=fun a w hs ho=>wp_scope_straight (h a w hs ho)
theorem gc_label {id:Nat} (h:GK dm n (Q .normal) e w0 S l):GK dm n ((Code.label id).wp P Q) e w0 S l:=fun a w hs ho=>wp_label (h a w hs ho)
theorem Zdj (h:GK dm n (Q .ret) e w0 S l):GK dm n (Exit.noGoto Q .ret) e w0 S l:=h
end
section
variable {dm:List Deferred} {P:Program} {n:Nat} {Q:Exit→Act→World→Prop} {K:Act→World→Prop} {e:Env} {w0:World} {S:List Nat} {l:List HL} {d:Nat} {ty:TypeId} {pos:String} {aft:Array Edge} {gd:Option (Nat × Bool)}
theorem take_mid {α:Type} (A cs:List α) (o m:Nat) (hm:m≤A.length) (hf:o+cs.length≤m):(A.take o++cs++A.drop (o+cs.length)).take m=(A.take m).take o++cs++(A.take m).drop (o+cs.length):=by
 have h1:(A.take m).take o=A.take o:=by rw [List.take_take,Nat.min_eq_left (by omega)]
 have h2:A.drop (o+cs.length)=(A.take m).drop (o+cs.length)++A.drop m:=by
  conv=>lhs; rw [← List.take_append_drop m A]
  rw [List.drop_append_of_le_length (by rw [List.length_take]; omega)]
 rw [h1,h2,← List.append_assoc]
 exact List.take_left' (by simp; omega)
theorem WY (i o:Nat) {t t2 E:TypeId} {z:Value} {bytes:Nat} {x y:Operand} {g m cap dLen dCap sLen sCap:Nat} {xs cs:List Value} {ad:Addr} (hu:P.underlying t=some (.slice E)) (ht:TyF P E z 1 bytes) (hd:Nat.ble n d=false)
    (hx:e.ev x=some (.slice (some ⟨g,o,none⟩) dLen dCap)) (hy:e.ev y=some (.slice (some ad) sLen sCap)) (hi:l[i]? = some (.row E 1 (some g) m cap xs)) (hn:cs.length=Nat.min sLen dLen) (hsrc:∀ w,Own w0 S w l→Cells w ad cs) (hfit:o+cs.length≤m) (h1:∀ u∈cs,u.oneCell'=true) {l':List HL} (hl':l.set i (.row E 1 (some g) m cap (xs.take o++cs++xs.drop (o+cs.length)))=l')
    (k:GK dm n K ((d,.int .i64 (cs.length:Int))::e) w0 S l') :
    GK dm n (fun a w=>Oper.wp P ⟨some d,.call { callee:=.builtin .copy,args:=#[x,y],argTypes:=#[t,t2] },ty,pos,aft,gd⟩ a w K Q) e w0 S l:=fun a w hs ho=>by
  subst hl'
  have hh:=ho.holds _ (List.mem_of_getElem? hi)
  obtain ⟨hl,cur,h3,h4,h5,h6,h7⟩:=hh
  obtain ⟨ii,hi1,hi2,hi3,hi4⟩:=ht.ex
  have hsz:(P.info? E).map (·.size)=some 1:=by rw [hi1]; simp [hi3]
  have hr:=run_copy_row P w t t2 ty E g o dLen dCap ad sLen sCap cur E cs hu hsz h3 hn (hsrc w ho) (by omega) h1
  have hr2:(execOp a.eval ⟨some d,.call { callee:=.builtin .copy,args:=#[x,y],argTypes:=#[t,t2] },ty,pos,aft,gd⟩).run P w=.ok (.value (.int .i64 (cs.length:Int))) (w.setRow g (cur.toList.take o++cs++cur.toList.drop (o+cs.length)).toArray):=by
    simp [execOp,resolve,invoke,builtin,hs.ev hx,hs.ev hy,hr,goInt]
  have hlt:=lt_size h3
  refine XD hr2 (k _ _ (hs.put (Xx hd) _) ?_)
  refine ho.turn hi rfl rfl rfl (by simp [World.setRow]) (fun b' hb' hne=>?_) ?_ (fun b' hb'=>.inl hb')
  · have hne':b'≠g:=fun e=>hne (by simp [HL.block,e])
    exact setRow_other w g b' _ hne'
  · refine ⟨?_,_,setRow_heap w g cur _ E _ h3,h4,h5,?_,?_⟩
    · have:xs.length=m:=by rw [hl]; omega
      simp; omega
    · have hc:cur.toList.length=cap:=by simp [h6]
      simp; omega
    · have hc:cur.toList.length=cap:=by simp [h6]
      rw [← h7,Nat.mul_one]
      exact take_mid cur.toList cs o m (by omega) hfit
end
section
variable {dm:List Deferred} {P:Program} {n:Nat} {e:Env} {w0:World} {S:List Nat} {l:List HL} {dst:Option Tmp} {ty:TypeId} {pos:String} {aft:Array Edge} {gd:Option (Nat × Bool)} {x y:Operand} {t ty':TypeId}
theorem bits_u64 (a b:Nat) (ha:a<2 ^ 64) (hb:b<2 ^ 64) (f:Nat→Nat→Nat) (g:(k:Nat)→BitVec k→BitVec k→BitVec k) (hg:∀ x y:BitVec 64,(g 64 x y).toNat=f x.toNat y.toNat) (hf:f a b<2 ^ 64) :
    IntKind.u64.wrap ((g 64 (BitVec.ofInt 64 (a:Int)) (BitVec.ofInt 64 (b:Int))).toNat:Int)=(f a b:Nat):=by
  have e1:(BitVec.ofInt 64 (a:Int)).toNat=a:=by simp; omega
  have e2:(BitVec.ofInt 64 (b:Int)).toNat=b:=by simp; omega
  rw [hg,e1,e2]
  exact Va hf
theorem Zku {a b c:Nat} (hx:e.ev x=some (.int .u64 a)) (hy:e.ev y=some (.int .u64 b)) (ha:a<18446744073709551616) (hb:b<18446744073709551616) (hc:a &&& b=c):Rd P dm n e w0 S l ⟨dst,.binOp .and t x y ty',ty,pos,aft,gd⟩ (.int .u64 (c:Int)):=by
 subst hc
 exact Wm hx hy (by decide) fun w=>by
  have:=bits_u64 a b ha hb (· &&& ·) (fun _ x y=>x &&& y) (fun _ _=>BitVec.toNat_and ..) (Nat.lt_of_le_of_lt Nat.and_le_left ha)
  exact congrArg (fun z=>Result.ok (Value.int .u64 z) w) this
theorem Zdk {a b c:Nat} (hx:e.ev x=some (.int .u64 a)) (hy:e.ev y=some (.int .u64 b)) (hc:a * b=c) (h:c<18446744073709551616):Rd P dm n e w0 S l ⟨dst,.binOp .mul t x y ty',ty,pos,aft,gd⟩ (.int .u64 (c:Int)):=by
 have h1:=rd_mulk (P:=P) (dm:=dm) (n:=n) (w0:=w0) (S:=S) (l:=l) (dst:=dst) (ty:=ty) (pos:=pos) (aft:=aft) (gd:=gd) (t:=t) (ty':=ty') hx hy
 rwa [show ((a:Int) * (b:Int))=((c:Nat):Int) by rw [← hc]; push_cast; rfl,Va h] at h1
theorem Zgf {a b c:Nat} (hx:e.ev x=some (.int .u64 a)) (hy:e.ev y=some (.int .u64 b)) (hc:a+b=c) (h:c<18446744073709551616):Rd P dm n e w0 S l ⟨dst,.binOp .add t x y ty',ty,pos,aft,gd⟩ (.int .u64 (c:Int)):=by
 have h1:=Zpw (P:=P) (dm:=dm) (n:=n) (w0:=w0) (S:=S) (l:=l) (dst:=dst) (ty:=ty) (pos:=pos) (aft:=aft) (gd:=gd) (t:=t) (ty':=ty') hx hy
 rwa [show ((a:Int)+(b:Int))=((c:Nat):Int) by rw [← hc]; push_cast; rfl,Va h] at h1
theorem Zdl {a b c:Nat} {yk:IntKind} (hx:e.ev x=some (.int .u64 a)) (hy:e.ev y=some (.int yk b)) (ha:a<18446744073709551616) (hc:a >>> b=c):Rd P dm n e w0 S l ⟨dst,.binOp .shr t x y ty',ty,pos,aft,gd⟩ (.int .u64 (c:Int)) :=
  Jf hx hy (.inr rfl) fun w=>by
    subst hc
    have h4:(a:Int).fdiv (2 ^ (min b 64))=((a >>> b:Nat):Int):=by
      rw [Nat.shiftRight_eq_div_pow]
      rcases Nat.le_total b 64 with h | h
      · rw [Nat.min_eq_left h,Int.fdiv_eq_ediv_of_nonneg _ (by exact_mod_cast Nat.zero_le _)]; simp
      · rw [Nat.min_eq_right h,Int.fdiv_eq_ediv_of_nonneg _ (by decide)]
        have e1:a / 2 ^ b=0:=Nat.div_eq_of_lt (Nat.lt_of_lt_of_le ha (Nat.le_trans (by decide) (Nat.pow_le_pow_right (by decide) h)))
        rw [e1]
        have:(a:Int) / 2 ^ 64=((a / 2 ^ 64:Nat):Int):=by simp
        rw [this,Nat.div_eq_of_lt (by omega)]
    simp only [Op.shift,show ¬ ((b:Int)<0) by omega,if_false,IntKind.bits,Int.toNat_natCast,h4]; rfl
theorem Zlz {a b:Nat} {ats:Array TypeId} (hx:e.ev x=some (natV a)) (hy:e.ev y=some (natV b)) :
    Rd P dm n e w0 S l ⟨dst,.call { callee:=.builtin .min,args:=#[x,y],argTypes:=ats },ty,pos,aft,gd⟩ (natV (min a b)) :=
  fun a' w hs ho=>by
    have e1:(if (b:Int)<a then (b:Int) else a)=((min a b:Nat):Int):=by split <;> omega
    simp [execOp,resolve,invoke,builtin,hs.ev hx,hs.ev hy,Builtin.min_,Builtin.min2]
    simpa using e1
end
section
variable {dm:List Deferred} {P:Program} {n:Nat} {Q:Exit→Act→World→Prop} {K:Act→World→Prop} {e:Env} {w0:World} {S:List Nat} {l:List HL} {d:Nat} {ty:TypeId} {pos:String} {aft:Array Edge} {gd:Option (Nat × Bool)}
theorem Zja {F:FuncId} {fn:Func} {p t E:TypeId} {x:Operand} {xs:Array TypeId} {m:Nat} (hf:P.funcs[F]? = some fn) (hname:(fn.name == "runtime.NumGoroutine")=false) (hb:fn.body.isNone=true) (hn:Extern.findNext fn=none) (he:Extern.find fn=some (Extern.BytealgMakeNoZero.makeNoZero #[p] #[t])) (hu:P.underlying t=some (.slice E)) (hd:Nat.ble n d=false)
    (hx:e.ev x=some (natV m)) (hm:m≤1000000000)
    (k:∀ b cap xs,m≤cap→xs.length=m→GK dm n K ((d,.slice (some ⟨b,0,none⟩) m cap)::e) w0 S (.row E 1 (some b) m cap xs::l)) :
    GK dm n (fun a w=>Oper.wp P ⟨some d,.call { callee:=.value (.func F),args:=#[x],argTypes:=xs },ty,pos,aft,gd⟩ a w K Q) e w0 S l:=fun a w hs ho=>by
  obtain ⟨cs,hrun,hle,hmax⟩:=Lib.run_makeNoZero (P:=P) w #[p] t E hu m (by omega)
  have hc:(callFunc F #[natV m]).run P w=.ok (.value (.slice (some ⟨w.heap.size,0,none⟩) m cs.size)) (w.drew.drew.alloc (.cells cs E)):=by
    rw [run_callFunc_extern hf hname hb hn he,hrun]; rfl
  have hr:(execOp a.eval ⟨some d,.call { callee:=.value (.func F),args:=#[x],argTypes:=xs },ty,pos,aft,gd⟩).run P w=.ok (.value (.slice (some ⟨w.heap.size,0,none⟩) m cs.size)) (w.drew.drew.alloc (.cells cs E)):=by
    have h1:a.eval (.func F)=.func (.func F) #[] #[]:=rfl
    simp [execOp,resolve,Deferred.ofValue,invoke,h1,hs.ev hx,hc]
  refine XD hr (k _ cs.size (cs.toList.take m) hle (by simp; omega) _ _ (hs.put (Xx hd) _) ?_)
  have h2:Own w0 S w.drew.drew l:=ho.drew.drew
  have h3:(w.drew.drew).heap.size=w.heap.size:=rfl
  rw [← h3]
  refine h2.alloc (.row E 1 (some w.drew.drew.heap.size) m cs.size (cs.toList.take m)) _ rfl ?_
  have hmx:=hmax (by unfold maxLen; omega)
  refine ⟨by simp; omega,cs,heap_alloc_new _ _,hle,hmx,by simp,by simp⟩
end
section
variable {dm:List Deferred} {P:Program} {n:Nat} {e:Env} {w0:World} {S:List Nat} {l:List HL} {dst:Option Tmp} {ty:TypeId} {pos:String} {aft:Array Edge} {gd:Option (Nat × Bool)} {x y:Operand} {t ty':TypeId}
theorem V0 {n:Nat} (h:n<4294967296):IntKind.u32.wrap (n:Int)=(n:Int):=by
 unfold IntKind.wrap
 simp only [IntKind.signed,IntKind.bits,Bool.false_and,if_false,Bool.false_eq_true]
 exact Int.emod_eq_of_lt (by omega) (by omega)
theorem JC {n:Nat} (h:n<256):IntKind.u8.wrap (n:Int)=(n:Int):=Zi8 (by omega) (by omega)
theorem Vd {n:Nat} (h:n<9223372036854775808):IntKind.i64.wrap (n:Int)=(n:Int):=Wy (by omega) (by omega)
theorem rd_or32 {a b:Nat} (hx:e.ev x=some (.int .u32 a)) (hy:e.ev y=some (.int .u32 b)) (ha:a<4294967296) (hb:b<4294967296):Rd P dm n e w0 S l ⟨dst,.binOp .or t x y ty',ty,pos,aft,gd⟩ (.int .u32 ((a ||| b:Nat):Int)) :=
  Wm hx hy (by decide) fun w=>by
    have e1:(BitVec.ofInt 32 (a:Int)).toNat=a:=by simp; omega
    have e2:(BitVec.ofInt 32 (b:Int)).toNat=b:=by simp; omega
    have h3:(BitVec.ofInt 32 (a:Int) ||| BitVec.ofInt 32 (b:Int)).toNat=a ||| b:=by rw [BitVec.toNat_or,e1,e2]
    have h4:a ||| b<4294967296:=Nat.or_lt_two_pow (n:=32) ha hb
    have h5:IntKind.u32.wrap ((BitVec.ofInt 32 (a:Int) ||| BitVec.ofInt 32 (b:Int)).toNat:Int)=((a ||| b:Nat):Int):=by rw [h3]; exact V0 h4
    exact congrArg (fun z=>Result.ok (Value.int .u32 z) w) h5
theorem rd_shl32 {a b:Nat} {yk:IntKind} (hx:e.ev x=some (.int .u32 a)) (hy:e.ev y=some (.int yk b)) (hb:b≤32) (ha:a * 2 ^ b<4294967296):Rd P dm n e w0 S l ⟨dst,.binOp .shl t x y ty',ty,pos,aft,gd⟩ (.int .u32 ((a <<< b:Nat):Int)) :=
  Jf hx hy (.inl rfl) fun w=>by
    have h1:min b 32=b:=by omega
    have h2:((a:Int) * 2 ^ b)=((a <<< b:Nat):Int):=by rw [Nat.shiftLeft_eq]; simp
    have h3:a <<< b<4294967296:=by rw [Nat.shiftLeft_eq]; exact ha
    simp only [Op.shift,show ¬ ((b:Int)<0) by omega,if_false,IntKind.bits,Int.toNat_natCast,h1,h2]
    rw [V0 h3]; rfl
theorem Zl0 {a b:Nat} {yk:IntKind} (hx:e.ev x=some (.int .u32 a)) (hy:e.ev y=some (.int yk b)) (ha:a<4294967296) (hb:b≤32):Rd P dm n e w0 S l ⟨dst,.binOp .shr t x y ty',ty,pos,aft,gd⟩ (.int .u32 ((a >>> b:Nat):Int)) :=
  Jf hx hy (.inr rfl) fun w=>by
    have h4:(a:Int).fdiv (2 ^ (min b 32))=((a >>> b:Nat):Int):=by
      rw [Nat.shiftRight_eq_div_pow,Nat.min_eq_left hb,Int.fdiv_eq_ediv_of_nonneg _ (by exact_mod_cast Nat.zero_le _)]; simp
    simp only [Op.shift,show ¬ ((b:Int)<0) by omega,if_false,IntKind.bits,Int.toNat_natCast,h4]; rfl
end
section
variable {dm:List Deferred} {P:Program} {n:Nat} {Q:Exit→Act→World→Prop} {K:Act→World→Prop} {e:Env} {w0:World} {S:List Nat} {l:List HL} {d:Nat} {ty:TypeId} {pos:String} {aft:Array Edge} {gd:Option (Nat × Bool)}
end
section
variable {dm:List Deferred} {P:Program} {n:Nat} {e:Env} {w0:World} {S:List Nat} {l:List HL} {dst:Option Tmp} {ty:TypeId} {pos:String} {aft:Array Edge} {gd:Option (Nat × Bool)} {x y:Operand} {t t2 ty':TypeId}
theorem Zra {a b:ByteArray} (hu:P.underlying t=some .string) (hgt:P.eqGuardType P.depth t=false) (hx:e.ev x=some (.string a)) (hy:e.ev y=some (.string b)):Rd P dm n e w0 S l ⟨dst,.binOp .eql t x y ty',ty,pos,aft,gd⟩ (.bool (a.toList == b.toList)):=fun ac w hs ho=>by
 simp [execOp,hs.ev hx,hs.ev hy,eqGuard,binOp,hgt,Op.stringOp]
end
structure ME (β:Type) where
  key:Int
  v:β
  born:Nat
def ME.ent {β:Type} (val:β→Value) (x:ME β):MapEntry:=⟨.int .i64 x.key,val x.v,x.born⟩
def X0 {β:Type} (val:β→Value) (m:List (ME β)) (nb:Nat):Obj:=.map (m.map (ME.ent val)).toArray nb
def Wz {β:Type} (k:Int):List (ME β)→Option β
  | []=>none
  | y::l=>if k=y.key then some y.v else Wz k l
def WL {β:Type} (k:Int) (v:β) (nb:Nat):List (ME β)→List (ME β)
  | []=>[⟨k,v,nb⟩]
  | y::l=>if k=y.key then ⟨k,v,y.born⟩::l else y::WL k v nb l
def mnb {β:Type} (k:Int) (m:List (ME β)) (nb:Nat):Nat:=if (Wz k m).isSome then nb else nb+1
structure MOk {β:Type} (m:List (ME β)) (nb:Nat):Prop where
  keys:(m.map ME.key).Nodup
  borns:(m.map ME.born).Nodup
  lt:∀ x∈m,x.born<nb
theorem MOk.nil {β:Type}:MOk ([]:List (ME β)) 0:=⟨List.nodup_nil,List.nodup_nil,fun _ h=>by cases h⟩
theorem Zl1 {β:Type} {k:Int} {v:β} {nb:Nat}:∀ {m:List (ME β)},(Wz k m).isSome=true→(WL k v nb m).map ME.key=m.map ME.key∧(WL k v nb m).map ME.born=m.map ME.born
  | [],h=>by cases h
  | y::l,h=>by
    unfold WL
    unfold Wz at h
    by_cases e:k=y.key
    · rw [if_pos e]; simp [e]
    · rw [if_neg e] at h ⊢
      obtain ⟨h1,h2⟩:=Zl1 (v:=v) (nb:=nb) (m:=l) h
      simp [h1,h2]
theorem Zg5 {β:Type} {k:Int} {v:β} {nb:Nat}:∀ {m:List (ME β)},Wz k m=none→WL k v nb m=m++[⟨k,v,nb⟩]
  | [],h=>rfl
  | y::l,h=>by
    unfold WL
    unfold Wz at h
    by_cases e:k=y.key
    · rw [if_pos e] at h; cases h
    · rw [if_neg e] at h ⊢
      rw [Zg5 h]; rfl
theorem mget_none {β:Type} {k:Int}:∀ {m:List (ME β)},Wz k m=none↔k ∉ m.map ME.key
  | []=>by simp [Wz]
  | y::l=>by
    unfold Wz
    by_cases e:k=y.key
    · rw [if_pos e]; simp [e]
    · rw [if_neg e,mget_none (m:=l)]; simp [e]
theorem Zl2 {β:Type} {k:Int} {v:β}:∀ {m:List (ME β)},Wz k m=some v→∃ b,(⟨k,v,b⟩:ME β)∈m
  | [],h=>by cases h
  | y::l,h=>by
    unfold Wz at h
    by_cases e:k=y.key
    · rw [if_pos e] at h; cases h; subst e; exact ⟨y.born,List.mem_cons_self⟩
    · rw [if_neg e] at h
      obtain ⟨b,hb⟩:=Zl2 h
      exact ⟨b,List.mem_cons_of_mem _ hb⟩
theorem mput_mem {β:Type} {k:Int} {v:β} {nb:Nat} {x:ME β}:∀ {m:List (ME β)},x∈WL k v nb m→x.v=v∧x.key=k∨x∈m
  | [],h=>by simp [WL] at h; subst h; exact .inl ⟨rfl,rfl⟩
  | y::l,h=>by
    unfold WL at h
    by_cases e:k=y.key
    · rw [if_pos e] at h
      rcases List.mem_cons.1 h with rfl | h
      · exact .inl ⟨rfl,rfl⟩
      · exact .inr (List.mem_cons_of_mem _ h)
    · rw [if_neg e] at h
      rcases List.mem_cons.1 h with rfl | h
      · exact .inr List.mem_cons_self
      · rcases mput_mem h with h | h
        · exact .inl h
        · exact .inr (List.mem_cons_of_mem _ h)
theorem MOk.put {β:Type} {m:List (ME β)} {nb:Nat} (h:MOk m nb) (k:Int) (v:β):MOk (WL k v nb m) (mnb k m nb):=by
 unfold mnb
 cases hg:Wz k m with
 | some y =>
  obtain ⟨h1,h2⟩:=Zl1 (v:=v) (nb:=nb) (m:=m) (by rw [hg]; rfl)
  rw [if_pos (show (some y).isSome=true from rfl)]
  refine ⟨by rw [h1]; exact h.keys,by rw [h2]; exact h.borns,fun x hx=>?_⟩
  have:x.born∈m.map ME.born:=by rw [← h2]; exact List.mem_map_of_mem hx
  obtain ⟨z,hz,e⟩:=List.mem_map.1 this
  rw [← e]; exact h.lt z hz
 | none =>
  rw [if_neg (by simp),Zg5 hg]
  have hk:=mget_none.1 hg
  refine ⟨?_,?_,fun x hx=>?_⟩
  ·rw [List.map_append,List.nodup_append]
   exact ⟨h.keys,by simp,fun a ha b hb e=>by simp at hb; subst hb; subst e; exact hk ha⟩
  ·rw [List.map_append,List.nodup_append]
   refine ⟨h.borns,by simp,fun a ha b hb e=>?_⟩
   simp at hb; subst hb; subst e
   obtain ⟨z,hz,e⟩:=List.mem_map.1 ha
   have:=h.lt z hz
   omega
  ·rcases List.mem_append.1 hx with hx | hx
   ·have:=h.lt x hx; omega
   ·simp at hx; subst hx; simp
theorem mkv {β:Type} (val:β→Value):∀ m:List (ME β),KV (m.map (ME.ent val)) (m.map fun x=>(x.key,val x.v))
  | []=>rfl
  | y::l=>by
    have:=mkv val l
    unfold KV at *
    simp only [List.map_cons]
    rw [this]; rfl
theorem lkv_m {β:Type} (val:β→Value) (k:Int):∀ m:List (ME β),lkv k (m.map fun x=>(x.key,val x.v))=(Wz k m).map val
  | []=>rfl
  | y::l=>by
    simp only [List.map_cons,lkv,Wz]
    by_cases e:k=y.key
    · rw [if_pos e,if_pos e]; rfl
    · rw [if_neg e,if_neg e]; exact lkv_m val k l
def Zg6 {β:Type} (k:Int):List (ME β)→Nat
  | []=>0
  | y::l=>if k=y.key then 0 else Zg6 k l+1
theorem Zjb {β:Type} (val:β→Value) (q:IntKind) (k:Int):∀ (m:List (ME β)) (i:Nat),Instr.findNow (.int q) (.int .i64 k) (m.map (ME.ent val)) i=some ((Wz k m).map fun v=>(i+Zg6 k m,val v))
  | [],i=>rfl
  | y::l,i=>by
    have ih:=Zjb val q k l (i+1)
    obtain ⟨yk,yv,yb⟩:=y
    by_cases e:k=yk
    · subst e; simp [ME.ent,Wz,Zg6,Instr.findNow,Instr.sameNow]
    · have h':(k == yk)=false:=by simp [e]
      simp only [List.map_cons,ME.ent,Wz,Zg6,Instr.findNow,Instr.sameNow,h',e,if_false] at ih ⊢
      simp only [bne_self_eq_false,Bool.false_eq_true,if_false,↓reduceIte,ih]
      rw [show i+1+Zg6 k l=i+(Zg6 k l+1) by omega]
theorem Zkv {P:Program} {β:Type} (val:β→Value) {q:IntKind} {kt:TypeId} (hk:P.underlying kt=some (.int q)) (k:Int) (m:List (ME β)) (w:World):(Instr.findKey kt (.int .i64 k) (m.map (ME.ent val))).run P w=.ok ((Wz k m).map fun v=>(Zg6 k m,val v)) w:=by
 have:=Zjb val q k m 0
 rw [Nat.zero_add] at this
 simp [Instr.findKey,run_underlying hk,this]
theorem Zp1 {β:Type} (val:β→Value) {k:Int} {v v0:β} {nb:Nat}:∀ {m:List (ME β)},Wz k m=some v0→((m.map (ME.ent val)).toArray.modify (Zg6 k m) fun e=>{ e with key:=.int .i64 k,val:=val v })=((WL k v nb m).map (ME.ent val)).toArray∧((m.map (ME.ent val))[Zg6 k m]?).map (fun x=>MapEntry.key x)=some (.int .i64 k)
  | [],h=>by cases h
  | y::l,h=>by
    unfold Wz at h
    unfold Zg6 WL
    by_cases e:k=y.key
    · rw [if_pos e,if_pos e]
      subst e
      refine ⟨?_,rfl⟩
      apply Array.ext'
      simp [ME.ent]
    · rw [if_neg e] at h
      rw [if_neg e,if_neg e]
      obtain ⟨h1,h2⟩:=Zp1 val (v:=v) (nb:=nb) h
      refine ⟨?_,by simpa using h2⟩
      apply Array.ext'
      have h3:=congrArg Array.toList h1
      simp at h3 ⊢
      exact h3
section
variable {dm:List Deferred} {P:Program} {n:Nat} {Q:Exit→Act→World→Prop} {K:Act→World→Prop} {e:Env} {w0:World} {S:List Nat} {l:List HL} {d:Nat} {dst:Option Nat} {ty:TypeId} {pos:String} {aft:Array Edge} {gd:Option (Nat × Bool)}
theorem XK (j:Nat) {β:Type} (val:β→Value) {q:IntKind} {t kt et:TypeId} {x y:Operand} {z:Value} {b nb:Nat} {m:List (ME β)} {k:Int} {size bytes:Nat} (hj:l[j]? = some (.obj b (X0 val m nb))) (hu:P.underlying t=some (.map kt et)) (hk:P.underlying kt=some (.int q)) (ht:TyF P et z size bytes) (hx:e.ev x=some (.map (some b))) (hy:e.ev y=some (.int .i64 k)) :
    Rd P dm n e w0 S l ⟨dst,.lookup t x y true,ty,pos,aft,gd⟩ (.tuple #[((Wz k m).map val).getD z,.bool (Wz k m).isSome]):=by
  have h:=Zkr (P:=P) (dm:=dm) (n:=n) (e:=e) (w0:=w0) (S:=S) (l:=l) (dst:=dst) (ty:=ty) (pos:=pos) (aft:=aft) (gd:=gd) j (mkv val m) hj hu hk ht hx hy
  rw [lkv_m,Option.isSome_map] at h
  exact h
theorem Zcv (j:Nat) {β:Type} (val:β→Value) {q:IntKind} {t kt et:TypeId} {x y:Operand} {z:Value} {b nb:Nat} {m:List (ME β)} {k:Int} {size bytes:Nat} (hj:l[j]? = some (.obj b (X0 val m nb))) (hu:P.underlying t=some (.map kt et)) (hk:P.underlying kt=some (.int q)) (ht:TyF P et z size bytes) (hx:e.ev x=some (.map (some b))) (hy:e.ev y=some (.int .i64 k)) :
    Rd P dm n e w0 S l ⟨dst,.lookup t x y false,ty,pos,aft,gd⟩ (((Wz k m).map val).getD z):=by
  have h:=Zoj (P:=P) (dm:=dm) (n:=n) (e:=e) (w0:=w0) (S:=S) (l:=l) (dst:=dst) (ty:=ty) (pos:=pos) (aft:=aft) (gd:=gd) j (mkv val m) hj hu hk ht hx hy
  rw [lkv_m] at h
  exact h
theorem rd_lenM (j:Nat) {β:Type} (val:β→Value) {x:Operand} {t kt et:TypeId} {b nb:Nat} {m:List (ME β)} (hj:l[j]? = some (.obj b (X0 val m nb))) (hu:P.underlying t=some (.map kt et)) (hx:e.ev x=some (.map (some b))) :
    Rd P dm n e w0 S l ⟨dst,.call { callee:=.builtin .len,args:=#[x],argTypes:=#[t] },ty,pos,aft,gd⟩ (natV m.length) :=
  fun a w hs ho=>by
    have hb:w.heap[b]? = some (.map (m.map (ME.ent val)).toArray nb):=ho.holds _ (List.mem_of_getElem? hj)
    have h1:=MapKept.run_getObj_map (P:=P) hb
    simp [execOp,resolve,invoke,builtin,hs.ev hx,Builtin.len_,run_underlying hu,h1,goInt]
theorem Xi (i:Nat) {β:Type} (val:β→Value) {q:IntKind} {t kt et:TypeId} {x y z:Operand} {b nb:Nat} {m:List (ME β)} {kk:Int} {v:β} (hu:P.underlying t=some (.map kt et)) (hk:P.underlying kt=some (.int q)) (hx:e.ev x=some (.map (some b))) (hy:e.ev y=some (.int .i64 kk)) (hz:e.ev z=some (val v))
    (hi:l[i]? = some (.obj b (X0 val m nb))) {l':List HL} (hl':l.set i (.obj b (X0 val (WL kk v nb m) (mnb kk m nb)))=l') (k:GK dm n K e w0 S l') :
    GK dm n (fun a w=>Oper.wp P ⟨none,.mapUpdate t x y z,ty,pos,aft,gd⟩ a w K Q) e w0 S l:=fun a w hs ho=>by
  subst hl'
  have hb:w.heap[b]? = some (.map (m.map (ME.ent val)).toArray nb):=ho.holds _ (List.mem_of_getElem? hi)
  have hlt:=lt_size hb
  have h1:=MapKept.run_getObj_map (P:=P) hb
  have hj:=Zkv (P:=P) val hk kk m w
  have h2:=MapKept.run_setObj_map (P:=P) (X0 val (WL kk v nb m) (mnb kk m nb)) hb
  have hr2:(execOp a.eval ⟨none,.mapUpdate t x y z,ty,pos,aft,gd⟩).run P w=.ok .skip { w with heap:=w.heap.setIfInBounds b (X0 val (WL kk v nb m) (mnb kk m nb)) }:=by
    cases hg:Wz kk m with
    | none =>
      rw [hg] at hj
      have e2:((m.map (ME.ent val)).toArray.push { key:=.int .i64 kk,val:=val v,born:=nb }:Array MapEntry)=((WL kk v nb m).map (ME.ent val)).toArray:=by rw [Zg5 hg]; simp [ME.ent]
      have e3:mnb kk m nb=nb+1:=by unfold mnb; rw [hg]; rfl
      unfold X0 at h2 ⊢
      rw [e3] at h2 ⊢
      simp only [Option.map_none] at hj
      simp [execOp,hs.ev hx,hs.ev hy,hs.ev hz,Instr.mapUpdate,run_underlying hu,h1,run_checkKey hk,hj]
      simp only [← List.push_toArray,e2] at *
      first | exact h2 | simp [h2] | (rw [e2]; simp [h2])
    | some v0 =>
      rw [hg] at hj
      obtain ⟨e2,e4⟩:=Zp1 val (v:=v) (nb:=nb) hg
      have e3:mnb kk m nb=nb:=by unfold mnb; rw [hg]; rfl
      unfold X0 at h2 ⊢
      rw [e3] at h2 ⊢
      have e5:((((m.map (ME.ent val)).toArray)[Zg6 kk m]?).map (fun x=>MapEntry.key x)).getD (.int .i64 kk)=.int .i64 kk:=by
        rw [List.getElem?_toArray,e4]; rfl
      have e6:(Instr.keyThatStays (.int .i64 kk) (.int .i64 kk)).run P w=.ok (.int .i64 kk) w:=by
        unfold Instr.keyThatStays
        rw [if_pos (by simp [Instr.sameBits])]
        rfl
      simp only [Option.map_some] at hj
      simp only [execOp,hs.ev hx,hs.ev hy,hs.ev hz,Instr.mapUpdate,Sem.run_bind,run_underlying hu,Result.andThen_ok,h1,run_checkKey hk,hj,e5,e6,e2,h2]
      rfl
  refine Zbf rfl hr2 (k _ _ hs ?_)
  refine ho.turn hi rfl rfl rfl (by simp) (fun b' hb' hne=>?_) ?_ (fun b' hb'=>.inl hb')
  · simp only [HL.block,ne_eq,Option.some.injEq] at hne
    simp [Array.getElem?_setIfInBounds,hne]
  · simp [HL.holds,hlt]
def Zba {β:Type} (b nb:Nat) (ds:List (ME β)):Obj:=.mapIter (some b) nb (ds.map ME.born).toArray nb
theorem Zl3 (i:Nat) {β:Type} (val:β→Value) {t kt et:TypeId} {x:Operand} {b nb:Nat} {m:List (ME β)} (hd:Nat.ble n d=false) (hu:P.underlying t=some (.map kt et)) (hx:e.ev x=some (.map (some b))) (hi:l[i]? = some (.obj b (X0 val m nb)))
    (k:∀ r,GK dm n K ((d,.pointer (some ⟨r,0,none⟩))::e) w0 S (.obj r (Zba b nb ([]:List (ME β)))::l)) :
    GK dm n (fun a w=>Oper.wp P ⟨some d,.range t x,ty,pos,aft,gd⟩ a w K Q) e w0 S l:=fun a w hs ho=>by
  have hb:w.heap[b]? = some (.map (m.map (ME.ent val)).toArray nb):=ho.holds _ (List.mem_of_getElem? hi)
  have hr:(execOp a.eval ⟨some d,.range t x,ty,pos,aft,gd⟩).run P w=.ok (.value (.pointer (some ⟨w.heap.size,0,none⟩))) (w.alloc (Zba b nb ([]:List (ME β)))):=by
    have:=run_range_map w t kt et b (m.map (ME.ent val)).toArray nb hu hb
    simp [execOp,hs.ev hx,this,Zba]
  exact XD hr (k _ _ _ (hs.put (Xx hd) _) (ho.alloc (.obj w.heap.size (Zba b nb ([]:List (ME β)))) _ rfl (heap_alloc_new w _)))
theorem Zl4 {β:Type} (val:β→Value) {m ds:List (ME β)} {x:MapEntry}:x∈(leftOf (m.map (ME.ent val)).toArray (ds.map ME.born).toArray).toList↔(∃ y∈m,x=ME.ent val y)∧x.born ∉ ds.map ME.born:=by
 unfold leftOf
 simp only [Array.toList_filter,List.mem_filter,List.mem_map,Bool.not_eq_true',List.contains_toArray]
 constructor
 ·rintro ⟨⟨y,hy,rfl⟩,h2⟩
  exact ⟨⟨y,hy,rfl⟩,by simpa using h2⟩
 ·rintro ⟨⟨y,hy,rfl⟩,h2⟩
  exact ⟨⟨y,hy,rfl⟩,by simpa using h2⟩
theorem JS {α β:Type} {f:α→β}:∀ {l:List α},(l.map f).Nodup→∀ {x y:α},x∈l→y∈l→f x=f y→x=y
  | [],_,_,_,hx,_,_=>by cases hx
  | a::l,h,x,y,hx,hy,e=>by
    rw [List.map_cons,List.nodup_cons] at h
    rcases List.mem_cons.1 hx with hx | hx
    · rcases List.mem_cons.1 hy with hy | hy
      · rw [hx,hy]
      · exact absurd (List.mem_map.2 ⟨y,hy,by rw [← e,hx]⟩) h.1
    · rcases List.mem_cons.1 hy with hy | hy
      · exact absurd (List.mem_map.2 ⟨x,hx,by rw [e,hy]⟩) h.1
      · exact JS h.2 hx hy e
theorem Ve {α β:Type} {f:α→β} {l:List α} (h:(l.map f).Nodup):l.Nodup:=by
 induction l with
 | nil=>exact List.nodup_nil
 | cons a l ih =>
  rw [List.map_cons,List.nodup_cons] at h
  exact List.nodup_cons.2 ⟨fun ha=>h.1 (List.mem_map_of_mem ha),ih h.2⟩
theorem Zp2 (i j:Nat) {β:Type} (val:β→Value) {x:Operand} {b r nb:Nat} {m ds:List (ME β)} (hd:Nat.ble n d=false) (hm:MOk m nb) (hds:(ds.map ME.born).Nodup) (hsub:∀ y∈ds,y∈m) (hx:e.ev x=some (.pointer (some ⟨r,0,none⟩))) (hi:l[i]? = some (.obj b (X0 val m nb))) (hj:l[j]? = some (.obj r (Zba b nb ds)))
    (kend:m.Perm ds→GK dm n K ((d,.tuple #[.bool false])::e) w0 S l)
    (kstep:∀ y,y∈m→y ∉ ds→GK dm n K ((d,.tuple #[.bool true,.int .i64 y.key,val y.v])::e) w0 S (l.set j (.obj r (Zba b nb (ds++[y]))))) :
    GK dm n (fun a w=>Oper.wp P ⟨some d,.next x false,ty,pos,aft,gd⟩ a w K Q) e w0 S l:=fun a w hs ho=>by
  have hb:w.heap[b]? = some (.map (m.map (ME.ent val)).toArray nb):=ho.holds _ (List.mem_of_getElem? hi)
  have hr:w.heap[r]? = some (.mapIter (some b) nb (ds.map ME.born).toArray nb):=ho.holds _ (List.mem_of_getElem? hj)
  have hold:∀ x∈(m.map (ME.ent val)).toArray.toList,x.born<nb:=fun x hx=>by
    obtain ⟨y,hy,rfl⟩:=List.mem_map.1 (by simpa using hx)
    exact hm.lt y hy
  rcases run_next_at (P:=P) w ty r b nb nb (ds.map ME.born).toArray (m.map (ME.ent val)).toArray nb hr hb hold (Nat.le_refl _) with ⟨h0,hrun⟩ | ⟨en,hen,w1,hw1,hrun⟩
  · have hperm:m.Perm ds:=by
      refine (List.perm_ext_iff_of_nodup (Ve hm.borns) (Ve hds)).2 fun y=>⟨fun hy=>?_,hsub y⟩
      by_cases hc:y.born∈ds.map ME.born
      · obtain ⟨z,hz,hzb⟩:=List.mem_map.1 hc
        rw [JS hm.borns hy (hsub z hz) hzb.symm]; exact hz
      · have:=(Zl4 val (m:=m) (ds:=ds) (x:=ME.ent val y)).2 ⟨⟨y,hy,rfl⟩,hc⟩
        rw [Array.eq_empty_of_size_eq_zero h0] at this
        cases this
    have hr2:(execOp a.eval ⟨some d,.next x false,ty,pos,aft,gd⟩).run P w=.ok (.value (.tuple #[.bool false])) w:=by
      simp [execOp,hs.ev hx,hrun]
    exact XD hr2 (kend hperm _ _ (hs.put (Xx hd) _) ho)
  · obtain ⟨⟨y,hy,rfl⟩,hyn⟩:=(Zl4 val).1 hen
    have hyd:y ∉ ds:=fun h=>hyn (List.mem_map.2 ⟨y,h,rfl⟩)
    have e1:((ds.map ME.born).toArray.push (ME.ent val y).born)=((ds++[y]).map ME.born).toArray:=by simp [ME.ent]
    rw [e1] at hrun
    have hr2:(execOp a.eval ⟨some d,.next x false,ty,pos,aft,gd⟩).run P w=.ok (.value (.tuple #[.bool true,.int .i64 y.key,val y.v])) (ChangeMaps.setBlock w1 r (Zba b nb (ds++[y]))):=by
      simp [execOp,hs.ev hx,hrun,ME.ent,Zba]
    refine XD hr2 (kstep y hy hyd _ _ (hs.put (Xx hd) _) ?_)
    have hheap:w1.heap=w.heap:=by rcases hw1 with rfl | rfl <;> rfl
    have hlt:=lt_size hr
    refine ho.turn hj ?_ ?_ ?_ ?_ (fun b' hb' hne=>?_) ?_ (fun b' hb'=>.inl hb')
    · rcases hw1 with rfl | rfl <;> rfl
    · rcases hw1 with rfl | rfl <;> rfl
    · rcases hw1 with rfl | rfl <;> rfl
    · simp [ChangeMaps.setBlock,hheap]
    · simp only [HL.block,ne_eq,Option.some.injEq] at hne
      simp [ChangeMaps.setBlock,hheap,Array.getElem?_setIfInBounds,hne]
    · simp [HL.holds,ChangeMaps.setBlock,hheap,hlt]
theorem Zl5 (i j:Nat) {β:Type} (val:β→Value) {x:Operand} {b r nb:Nat} {m ds:List (ME β)} {y:ME β} (hm:MOk m nb) (hy:y∈m) (hx:e.ev x=some (.pointer (some ⟨r,0,none⟩))) (hi:l[i]? = some (.obj b (X0 val m nb))) (hj:l[j]? = some (.obj r (Zba b nb (ds++[y])))) :
    Rd P dm n e w0 S l ⟨dst,.entry x,ty,pos,aft,gd⟩ (.tuple #[.int .i64 y.key,val y.v]) :=
  fun a w hs ho=>by
    have hb:w.heap[b]? = some (.map (m.map (ME.ent val)).toArray nb):=ho.holds _ (List.mem_of_getElem? hi)
    have hr:w.heap[r]? = some (.mapIter (some b) nb ((ds.map ME.born).toArray.push (ME.ent val y).born) nb):=by
      have:=ho.holds _ (List.mem_of_getElem? hj)
      simpa [HL.holds,Zba,ME.ent] using this
    have:=run_entry_at (P:=P) w r b nb (ds.map ME.born).toArray (m.map (ME.ent val)).toArray nb (ME.ent val y) hr hb (by simp; exact ⟨y,hy,rfl⟩) (by simpa [List.map_map,Function.comp_def,ME.ent] using hm.borns)
    simp [execOp,hs.ev hx,this,ME.ent]
end
section
variable {dm:List Deferred} {P:Program} {n:Nat} {Q:Exit→Act→World→Prop} {K:Act→World→Prop} {e:Env} {w0:World} {S:List Nat} {l:List HL} {d:Nat} {ty:TypeId} {pos:String} {aft:Array Edge} {gd:Option (Nat × Bool)}
def Zar (B T:List HL):List Nat:=(List.range T.length).map (· + B.length)
theorem J4 (B T:List HL):∀ ic:List Nat,(∀ i∈ic,i<B.length)→pick ic (B++T)=pick ic B:=fun ic h=>by
 unfold pick
 exact WK fun i hi=>List.getElem?_append_left (h i hi)
theorem Zeq (B T:List HL) (ic:List Nat) (h:∀ i∈ic,i<B.length):pick (ic++Zar B T) (B++T)=pick ic B++T:=by
 have h2:=Ja B T
 rw [show pick (ic++Zar B T) (B++T)=pick ic (B++T)++pick (Zar B T) (B++T) by simp [pick],J4 B T ic h]
 unfold Zar
 rw [h2]
theorem Zg7 {B T:List HL} {ic:List Nat} (h:ic.Nodup) (hl:∀ i∈ic,i<B.length):(ic++Zar B T).Nodup:=by
 rw [List.nodup_append]
 refine ⟨h,List.Pairwise.map _ (fun a b hab=>by omega) List.nodup_range,fun a ha b hb e=>?_⟩
 obtain ⟨q,_,rfl⟩:=List.mem_map.1 hb
 have:=hl a ha
 omega
theorem Yr (B T:List HL) (ic ir:List Nat) (m:Nat) {F:FuncId} {vf vc:List Value} {x:Operand} {xs:List Operand} {at_:Array TypeId} {vs:List Value} {Sc:List Nat} {R:Value→List HL→Prop} (hl:l=B++T) (hm:B.length=m) (hd:Nat.ble n d=false) (hx:e.ev x=some (.func (.func F) vf.toArray vc.toArray)) (hxs:e.evs xs=some vs)
    (hcall:∀ args w,(callFunc F args).run P w=.ok (.enter F args) w) (hno:(ic++ir).Nodup) (hlt:∀ i∈ic++ir,i<m) (hSc:Sc=(pick ic B).filterMap HL.block)
    (hspec:∀ w,Own w0 S w l→Own w Sc w (pick ic B)→Sp P F (vf++vs++vc) w Sc R) (k:∀ v l1,R v l1→GK dm n K ((d,v)::e) w0 S (l1++(pick ir B++T))) :
    GK dm n (fun a w=>Oper.wp P ⟨some d,.call { callee:=.value x,args:=xs.toArray,argTypes:=at_ },ty,pos,aft,gd⟩ a w K Q) e w0 S l:=by
  subst hl; subst hm
  have h1:∀ i∈ic,i<B.length:=fun i hi=>hlt i (List.mem_append_left _ hi)
  have h2:∀ i∈ir,i<B.length:=fun i hi=>hlt i (List.mem_append_right _ hi)
  refine Yi ic (ir++Zar B T) hd hx hxs hcall ?_ (by rw [J4 B T ic h1]; exact hSc) (fun w ho hc=>hspec w ho (by rw [J4 B T ic h1] at hc; exact hc)) (fun v l1 hR=>?_)
  · rw [← List.append_assoc]; exact Zg7 hno hlt
  · rw [Zeq B T ir h2]; exact k v l1 hR
theorem Zcc (B T:List HL) (ic ir:List Nat) (m:Nat) {F:FuncId} {vf vc:List Value} {x:Operand} {xs:List Operand} {at_:Array TypeId} {vs:List Value} {Sc:List Nat} {R:Value→List HL→Prop} (hl:l=B++T) (hm:B.length=m) (hd:Nat.ble n d=false) (hx:e.ev x=some (.func (.func F) vf.toArray vc.toArray)) (hxs:e.evs xs=some vs)
    (hcall:∀ args w,(callFunc F args).run P w=.ok (.enter F args) w) (hno:(ic++ir).Nodup) (hlt:∀ i∈ic++ir,i<m) (hSc:Sc=(pick ic B++T).filterMap HL.block)
    (hspec:∀ w,Own w0 S w l→Own w Sc w (pick ic B++T)→Sp P F (vf++vs++vc) w Sc R) (k:∀ v l1,R v l1→GK dm n K ((d,v)::e) w0 S (l1++pick ir B)) :
    GK dm n (fun a w=>Oper.wp P ⟨some d,.call { callee:=.value x,args:=xs.toArray,argTypes:=at_ },ty,pos,aft,gd⟩ a w K Q) e w0 S l:=by
  subst hl; subst hm
  have h1:∀ i∈ic,i<B.length:=fun i hi=>hlt i (List.mem_append_left _ hi)
  have h2:∀ i∈ir,i<B.length:=fun i hi=>hlt i (List.mem_append_right _ hi)
  have hno2:(ic++Zar B T++ir).Nodup:=by
    have h3:(ic++ir++Zar B T).Nodup:=Zg7 hno hlt
    exact (List.Perm.nodup_iff (by rw [List.append_assoc,List.append_assoc]; exact List.Perm.append_left _ List.perm_append_comm)).1 h3
  refine Yi (ic++Zar B T) ir hd hx hxs hcall hno2 (by rw [Zeq B T ic h1]; exact hSc) (fun w ho hc=>hspec w ho (by rw [Zeq B T ic h1] at hc; exact hc)) (fun v l1 hR=>?_)
  rw [J4 B T ir h2]; exact k v l1 hR
theorem Jh {K:Act→World→Prop} (A T B:List HL) (h:GK dm n K e w0 S (A++(B++T))):GK dm n K e w0 S ((A++T)++B):=by
 refine gk_sub ?_ h
 have h1:=Zks (B++T) A
 refine ⟨List.range A.length++((List.range B.length).map (· + (A++T).length)++(List.range T.length).map (· + A.length)),?_,?_⟩
 ·rw [List.nodup_append,List.nodup_append]
  refine ⟨List.nodup_range,⟨List.Pairwise.map _ (fun a b hab=>by omega) List.nodup_range,List.Pairwise.map _ (fun a b hab=>by omega) List.nodup_range,fun a ha b hb e=>?_⟩,fun a ha b hb e=>?_⟩
  ·obtain ⟨q,_,rfl⟩:=List.mem_map.1 ha
   obtain ⟨p,hp,rfl⟩:=List.mem_map.1 hb
   have:=List.mem_range.1 hp
   simp at e
   omega
  ·have ha:=List.mem_range.1 ha
   rcases List.mem_append.1 hb with hb | hb
   ·obtain ⟨q,_,rfl⟩:=List.mem_map.1 hb
    simp at e; omega
   ·obtain ⟨q,_,rfl⟩:=List.mem_map.1 hb
    omega
 ·have e1:∀ xs ys (l:List HL),pick (xs++ys) l=pick xs l++pick ys l:=fun xs ys l=>by simp [pick]
  rw [e1,e1,Ja (A++T) B,List.append_assoc A T B,Zeo A (T++B)]
  congr 1
  congr 1
  rw [← List.append_assoc,J4 (A++T) B _ (fun i hi=>by obtain ⟨q,hq,rfl⟩:=List.mem_map.1 hi; have:=List.mem_range.1 hq; simp; omega),Ja]
theorem Own.memSl {w:World} (ho:Own w0 S w l) {E:TypeId} {sz:Nat} {r:Option Nat} {m cap:Nat} {xs:List Value} (hi:HL.row E sz r m cap xs∈l):OldSl w [] (rowA r) m sz xs:=by
 obtain ⟨i,hi⟩:=List.getElem?_of_mem hi
 exact ho.rowSl i hi
end
section
variable {dm:List Deferred} {P:Program} {n:Nat} {e:Env} {w0:World} {S:List Nat} {l l':List HL} {fn:Func} {R:Value→List HL→Prop}
theorem Zdm {x:Exit} (hx:x=.ret∨x=.normal) (hr:fn.results=#[]) (hs:Sub l' l) (h:R (.tuple #[]) l'):GK [] n (bodyPost P fn (Zgb w0 S R) x) e w0 S l:=by
 obtain ⟨idx,hi,rfl⟩:=hs
 exact gx_ret0 hx hr idx hi h
theorem XE {t u:Tmp} {v v2:Value} {x:Exit} (hx:x=.ret∨x=.normal) (hr:fn.results=#[.tmp t,.tmp u]) (hv:e.get t=some v) (hv2:e.get u=some v2) (hs:Sub l' l) (h:R (.tuple #[v,v2]) l'):GK [] n (bodyPost P fn (Zgb w0 S R) x) e w0 S l:=by
 obtain ⟨idx,hi,rfl⟩:=hs
 exact Y5 hx hr hv hv2 idx hi h
theorem WA {r s:ResultVar} {v u:Value} {x:Exit} (hx:x=.ret∨x=.normal) (hr:fn.results=#[r,s]) (h1:RVal P [] n e w0 S l r v) (h2:RVal P [] n e w0 S l s u) (hs:Sub l' l) (h:R (.tuple #[v,u]) l'):GK [] n (bodyPost P fn (Zgb w0 S R) x) e w0 S l:=by
 obtain ⟨idx,hi,rfl⟩:=hs
 exact YF hx hr h1 h2 idx hi h
theorem Zl6 {A B T:List HL} (idx:List Nat) (m:Nat) (hi:idx.Nodup) (hlt:∀ i∈idx,i<m) (hm:B.length=m) (hA:A=pick idx B):Sub A (B++T) :=
  ⟨idx,hi,by rw [hA,J4 B T idx (fun i h=>hm ▸ hlt i h)]⟩
end
section
variable {dm:List Deferred} {P:Program} {n:Nat} {e:Env} {w0:World} {S:List Nat} {l:List HL} {dst:Option Tmp} {ty:TypeId} {pos:String} {aft:Array Edge} {gd:Option (Nat × Bool)} {x y:Operand} {t t2 ty':TypeId}
end
section
variable {dm:List Deferred} {P:Program} {n:Nat} {Q:Exit→Act→World→Prop} {K:Act→World→Prop} {e:Env} {w0:World} {S:List Nat} {l:List HL} {d:Nat} {ty:TypeId} {pos:String} {aft:Array Edge} {gd:Option (Nat × Bool)}
theorem Zfq (i:Nat) {t E:TypeId} {z:Value} {size bytes:Nat} {x y:Operand} {r:Option Nat} {m cap:Nat} {xs:List Value} {a:Option Addr} {mm c:Nat} {news:List Value} (hsl:∀ w,Own w0 S w l→OldSl w [] a mm size news) (hu:P.underlying t=some (.slice E)) (ht:TyF P E z size bytes)
    (hzs:z.cells.size=size) (hsz:0<size) (hd:Nat.ble n d=false) (hx:e.ev x=some (.slice (rowA r) m cap)) (hy:e.ev y=some (.slice a mm c)) (hi:l[i]? = some (.row E size r m cap xs))
    (h1:∀ u∈news,u.oneCell'=true) (hb:(m+mm) * bytes≤140737488355328) (h63:m+mm≤9223372036854775807) {lf:HL→List HL} (hl':∀ y,l.set i y=lf y)
    (k:∀ r' cap',GK dm n K ((d,.slice (rowA r') (m+mm) cap')::e) w0 S (lf (.row E size r' (m+mm) cap' (xs++news)))) :
    GK dm n (fun a w=>Oper.wp P ⟨some d,.call { callee:=.builtin .append,args:=#[x,y],argTypes:=#[t,t] },ty,pos,aft,gd⟩ a w K Q) e w0 S l:=by
  intro ac w hs ho
  have hsl0:=hsl w ho
  cases a with
  | some ad=>exact Zem i hu ht hzs hsz hd hx hy hi hsl0.len (fun w ho=>(hsl w ho).cells) h1 hb h63 hl' k ac w hs ho
  | none =>
    have hmm:mm=0:=by
      rcases Nat.eq_zero_or_pos mm with h | h
      · exact h
      · have:=hsl0.isSome h; cases this
    subst hmm
    have hnews:news=[]:=List.eq_nil_of_length_eq_zero (by simpa using hsl0.len)
    subst hnews
    have hset:l.set i (.row E size r m cap xs)=l:=by
      apply List.ext_getElem?
      intro j
      rw [List.getElem?_set]
      split
      · rename_i h; subst h
        split
        · exact hi.symm
        · rename_i h2; simp [List.getElem?_eq_none (by omega:l.length≤i)] at hi
      · rfl
    have k':=k r cap
    rw [← hl',List.append_nil,Nat.add_zero,hset] at k'
    have hh:=ho.holds _ (List.mem_of_getElem? hi)
    have hr:=Za9 (P:=P) (t:=t) (ty:=ty) hu ht hh c
    have hr2:(execOp ac.eval ⟨some d,.call { callee:=.builtin .append,args:=#[x,y],argTypes:=#[t,t] },ty,pos,aft,gd⟩).run P w=.ok (.value (.slice (rowA r) m cap)) w:=by
      simp [execOp,resolve,invoke,builtin,hs.ev hx,hs.ev hy,hr]
    exact XD hr2 (k' _ _ (hs.put (Xx hd) _) ho)
theorem Zcd {K:Act→World→Prop} (A T1 B T:List HL) (h:GK dm n K e w0 S (A++(B++(T++T1)))):GK dm n K e w0 S ((A++T1)++(B++T)):=by
 refine Jh A T1 (B++T) ?_
 rw [List.append_assoc B T T1]; exact h
theorem slOutW {w:World} {B T:List HL} (ho:Own w0 S w (B++T)) {a:Option Addr} {m sz:Nat} {cs:List Value} (h:OldSl w0 S a m sz cs) (hsz:0<sz) (ic:List Nat):OldSl w ((pick ic B++T).filterMap HL.block) a m sz cs:=by
 refine ⟨h.len,h.isSome,(h.at ho).cells,fun hm hb=>?_⟩
 obtain ⟨y,hy,hyb⟩:=List.mem_filterMap.1 hb
 have hyl:y∈B++T:=by
  rcases List.mem_append.1 hy with hy | hy
  ·exact List.mem_append_left _ (Zdd hy)
  ·exact List.mem_append_right _ hy
 rcases ho.place y hyl _ hyb with h1 | h1
 ·exact h.out hm h1
 ·have:=h.lt hm hsz; omega
end
section
variable {dm:List Deferred} {P:Program} {n m:Nat} {o:Option Nat} {Q:Exit→Act→World→Prop} {K:Act→World→Prop} {e:Env} {w0:World} {S:List Nat} {l l':List HL}
end
section
variable {dm:List Deferred} {P:Program} {n d:Nat} {o:Option Nat} {Q:Exit→Act→World→Prop} {ops:Array Oper} {e:Env} {w0:World} {S:List Nat} {l:List HL} {dst:Option Tmp} {ty:TypeId} {pos:String} {aft:Array Edge} {rest:List Oper}
end
theorem Own.tail {w0 w:World} {S:List Nat} {x:HL} {l:List HL} (h:Own w0 S w (x::l)):Own w0 S w l :=
  ⟨h.os,h.tape,h.output,h.size,h.old,fun y hy=>h.holds y (List.mem_cons_of_mem _ hy),fun y hy=>h.place y (List.mem_cons_of_mem _ hy),by
    have:=h.nodup
    simp only [List.filterMap_cons] at this
    cases hx:x.block with
    | none=>rw [hx] at this; exact this
    | some b=>rw [hx] at this; exact (List.nodup_cons.1 this).2⟩
section
variable {P:Program} {fn:Func} {w0:World} {S:List Nat}
end
section
variable {dm:List Deferred} {P:Program} {n m:Nat} {o:Option Nat} {Q:Exit→Act→World→Prop} {K:Act→World→Prop} {e:Env} {w0:World} {S:List Nat} {l l':List HL}
end
section
variable {dm:List Deferred} {P:Program} {n:Nat} {Q:Exit→Act→World→Prop} {e:Env} {w0:World} {S:List Nat} {l:List HL}
end
section
variable {dm:List Deferred} {P:Program} {n:Nat} {e:Env} {w0:World} {S:List Nat} {l:List HL} {dst:Option Tmp} {ty:TypeId} {pos:String} {aft:Array Edge} {gd:Option (Nat × Bool)} {x y:Operand} {t ty':TypeId}
theorem W4 {s:ByteArray} {i:Nat} {b:UInt8} {k:IntKind} (hu:P.underlying t=some .string) (hx:e.ev x=some (.string s)) (hy:e.ev y=some (.int k (i:Int))) (hb:s[i]? = some b):Rd P dm n e w0 S l ⟨dst,.index t x y,ty,pos,aft,gd⟩ (.int .u8 (b.toNat:Int)) :=
  fun a w hs ho=>by
    simp [execOp,hs.ev hx,hs.ev hy,Instr.index,asIntOf,run_underlying hu,hb]
theorem WB {a b:ByteArray} (hu:P.underlying t=some .string) (hx:e.ev x=some (.string a)) (hy:e.ev y=some (.string b)) (hlen:a.size+b.size≤140737488355328):Rd P dm n e w0 S l ⟨dst,.binOp .add t x y ty',ty,pos,aft,gd⟩ (.string (a++b)):=fun ac w hs ho=>by
 have h0:¬ (9223372036854775807:Int)<(a.size:Int)+(b.size:Int):=by omega
 simp [execOp,hs.ev hx,hs.ev hy,eqGuard,binOp,Op.stringOp,h0]
end
structure MS (β:Type) where
  key:ByteArray
  v:β
  born:Nat
def MS.ent {β:Type} (val:β→Value) (x:MS β):MapEntry:=⟨.string x.key,val x.v,x.born⟩
def JD {β:Type} (k:ByteArray):List (MS β)→Option β
  | []=>none
  | y::l=>if k=y.key then some y.v else JD k l
def sidx {β:Type} (k:ByteArray):List (MS β)→Nat
  | []=>0
  | y::l=>if k=y.key then 0 else sidx k l+1
theorem ba_beq (a b:ByteArray):(a == b)=decide (a=b):=by
 obtain ⟨x⟩:=a
 obtain ⟨y⟩:=b
 have h:((⟨x⟩:ByteArray) == ⟨y⟩)=(x == y):=rfl
 rw [h]
 by_cases e:x=y
 ·subst e; simp
 ·have e2:¬ (⟨x⟩:ByteArray)=⟨y⟩:=fun h=>e (by cases h; rfl)
  rw [decide_eq_false e2]
  exact beq_eq_false_iff_ne.2 e
theorem Zjc {β:Type} (val:β→Value) (k:ByteArray):∀ (m:List (MS β)) (i:Nat),Instr.findNow .string (.string k) (m.map (MS.ent val)) i=some ((JD k m).map fun v=>(i+sidx k m,val v))
  | [],i=>rfl
  | y::l,i=>by
    have ih:=Zjc val k l (i+1)
    obtain ⟨yk,yv,yb⟩:=y
    by_cases e:k=yk
    · subst e
      simp [MS.ent,JD,sidx,Instr.findNow,Instr.sameNow,ba_beq]
    · simp only [List.map_cons,MS.ent,JD,sidx,Instr.findNow,Instr.sameNow,e,if_false,ba_beq,decide_false] at ih ⊢
      rw [ih]
      rw [show i+1+sidx k l=i+(sidx k l+1) by omega]
theorem Zdn {P:Program} {β:Type} (val:β→Value) {kt:TypeId} (hk:P.underlying kt=some .string) (k:ByteArray) (m:List (MS β)) (w:World):(Instr.findKey kt (.string k) (m.map (MS.ent val))).run P w=.ok ((JD k m).map fun v=>(sidx k m,val v)) w:=by
 have:=Zjc val k m 0
 rw [Nat.zero_add] at this
 simp [Instr.findKey,run_underlying hk,this]
def Zgc {β:Type} (val:β→Value) (m:List (MS β)) (nb:Nat):Obj:=.map (m.map (MS.ent val)).toArray nb
section
variable {dm:List Deferred} {P:Program} {n:Nat} {Q:Exit→Act→World→Prop} {K:Act→World→Prop} {e:Env} {w0:World} {S:List Nat} {l:List HL} {d:Nat} {dst:Option Nat} {ty:TypeId} {pos:String} {aft:Array Edge} {gd:Option (Nat × Bool)}
theorem Zg8 {kt:TypeId} (hk:P.underlying kt=some .string) (k:ByteArray) (b:Bool) (w:World) (N:Nat):(Instr.checkKey b (N+1) kt (.string k)).run P w=.ok () w:=by
 unfold Instr.checkKey
 simp only [Sem.run_bind,run_underlying hk,Result.andThen_ok]
 rfl
theorem JT {kt:TypeId} (hk:P.underlying kt=some .string) (k:ByteArray) (b:Bool) (w:World):(Instr.checkKey b 10000 kt (.string k)).run P w=.ok () w:=Zg8 hk k b w 9999
theorem Zl7 {β:Type} (val:β→Value) {t kt et:TypeId} {z:Value} {b nb:Nat} {m:List (MS β)} {k:ByteArray} {w:World} {size bytes:Nat} (hu:P.underlying t=some (.map kt et)) (hk:P.underlying kt=some .string) (ht:TyF P et z size bytes) (hb:w.heap[b]? = some (Zgc val m nb)) (ok:Bool) :
    (Instr.lookup t (.map (some b)) (.string k) ok).run P w=.ok (if ok then .tuple #[((JD k m).map val).getD z,.bool (JD k m).isSome] else ((JD k m).map val).getD z) w:=by
  have hj:=Zdn (P:=P) val hk k m w
  unfold Zgc at hb
  have h1:=MapKept.run_getObj_map (P:=P) hb
  cases h:JD k m with
  | none =>
    rw [h] at hj
    simp only [Option.map_none] at hj
    simp [Instr.lookup,run_underlying hu,h1,JT hk,hj,ht.runZero]
  | some v =>
    rw [h] at hj
    simp only [Option.map_some] at hj
    simp [Instr.lookup,run_underlying hu,h1,JT hk,hj]
theorem Zok (j:Nat) {β:Type} (val:β→Value) {t kt et:TypeId} {x y:Operand} {z:Value} {b nb:Nat} {m:List (MS β)} {k:ByteArray} {size bytes:Nat} (hj:l[j]? = some (.obj b (Zgc val m nb))) (hu:P.underlying t=some (.map kt et)) (hk:P.underlying kt=some .string) (ht:TyF P et z size bytes) (hx:e.ev x=some (.map (some b))) (hy:e.ev y=some (.string k)) :
    Rd P dm n e w0 S l ⟨dst,.lookup t x y false,ty,pos,aft,gd⟩ (((JD k m).map val).getD z) :=
  fun a w hs ho=>by
    have hb:w.heap[b]? = some (Zgc val m nb):=ho.holds _ (List.mem_of_getElem? hj)
    have:=Zl7 (P:=P) val (z:=z) (k:=k) hu hk ht hb false
    simp only [Bool.false_eq_true,if_false] at this
    simp [execOp,hs.ev hx,hs.ev hy,this]
theorem Zol (i:Nat) {β:Type} (val:β→Value) {t kt et:TypeId} {x y z:Operand} {b nb:Nat} {m:List (MS β)} {kk:ByteArray} {v:β} (hu:P.underlying t=some (.map kt et)) (hk:P.underlying kt=some .string) (hx:e.ev x=some (.map (some b))) (hy:e.ev y=some (.string kk)) (hz:e.ev z=some (val v))
    (hi:l[i]? = some (.obj b (Zgc val m nb))) (hno:JD kk m=none) {l':List HL} (hl':l.set i (.obj b (Zgc val (m++[⟨kk,v,nb⟩]) (nb+1)))=l') (k:GK dm n K e w0 S l') :
    GK dm n (fun a w=>Oper.wp P ⟨none,.mapUpdate t x y z,ty,pos,aft,gd⟩ a w K Q) e w0 S l:=fun a w hs ho=>by
  subst hl'
  have hb:w.heap[b]? = some (Zgc val m nb):=ho.holds _ (List.mem_of_getElem? hi)
  have hlt:=lt_size hb
  have hb2:w.heap[b]? = some (.map (m.map (MS.ent val)).toArray nb):=hb
  have h1:=MapKept.run_getObj_map (P:=P) hb2
  have hj:=Zdn (P:=P) val hk kk m w
  rw [hno] at hj
  simp only [Option.map_none] at hj
  have h2:=MapKept.run_setObj_map (P:=P) (Zgc val (m++[⟨kk,v,nb⟩]) (nb+1)) hb2
  have hr2:(execOp a.eval ⟨none,.mapUpdate t x y z,ty,pos,aft,gd⟩).run P w=.ok .skip { w with heap:=w.heap.setIfInBounds b (Zgc val (m++[⟨kk,v,nb⟩]) (nb+1)) }:=by
    have e2:(m++[(⟨kk,v,nb⟩:MS β)]).map (MS.ent val)=m.map (MS.ent val)++[{ key:=.string kk,val:=val v,born:=nb }]:=by simp [MS.ent]
    unfold Zgc at h2 ⊢
    rw [e2] at h2 ⊢
    simp [execOp,hs.ev hx,hs.ev hy,hs.ev hz,Instr.mapUpdate,run_underlying hu,h1,JT hk,hj]
    simp [h2]
  refine Zbf rfl hr2 (k _ _ hs ?_)
  refine ho.turn hi rfl rfl rfl (by simp) (fun b' hb' hne=>?_) ?_ (fun b' hb'=>.inl hb')
  · simp only [HL.block,ne_eq,Option.some.injEq] at hne
    simp [Array.getElem?_setIfInBounds,hne]
  · simp [HL.holds,hlt]
end
theorem Zix {a b:ByteArray} (h:a.toList=b.toList):a=b:=by
 rw [ByteArray.toList_eq,ByteArray.toList_eq] at h
 obtain ⟨x⟩:=a
 obtain ⟨y⟩:=b
 have:x=y:=Array.toList_inj.1 h
 rw [this]
theorem Zl8 (a b:ByteArray):(a.toList == b.toList)=decide (a=b):=by
 by_cases e:a=b
 ·subst e; simp
 ·have:¬ a.toList=b.toList:=fun h=>e (Zix h)
  simp [e,this]
section
variable {dm:List Deferred} {P:Program} {n:Nat} {e:Env} {w0:World} {S:List Nat} {l:List HL} {dst:Option Tmp} {ty:TypeId} {pos:String} {aft:Array Edge} {gd:Option (Nat × Bool)} {x y:Operand} {t ty':TypeId}
theorem Zas {a b:ByteArray} (hu:P.underlying t=some .string) (hgt:P.eqGuardType P.depth t=false) (hx:e.ev x=some (.string a)) (hy:e.ev y=some (.string b)):Rd P dm n e w0 S l ⟨dst,.binOp .eql t x y ty',ty,pos,aft,gd⟩ (.bool (decide (a=b))):=by
 have:=Zra (dm:=dm) (n:=n) (w0:=w0) (S:=S) (l:=l) (dst:=dst) (ty:=ty) (pos:=pos) (aft:=aft) (gd:=gd) (ty':=ty') hu hgt hx hy
 rwa [Zl8] at this
theorem rd_min2I {a b:Int} {ats:Array TypeId} (hx:e.ev x=some (.int .i64 a)) (hy:e.ev y=some (.int .i64 b)) :
    Rd P dm n e w0 S l ⟨dst,.call { callee:=.builtin .min,args:=#[x,y],argTypes:=ats },ty,pos,aft,gd⟩ (.int .i64 (min a b)) :=
  fun a' w hs ho=>by
    have e1:(if b<a then b else a)=min a b:=by split <;> omega
    simp [execOp,resolve,invoke,builtin,hs.ev hx,hs.ev hy,Builtin.min_,Builtin.min2]
    simpa using e1
end
def Zbb : List ByteArray→Nat→List (MS Bool)
  | [],_=>[]
  | k::ks,i=>⟨k,true,i⟩::Zbb ks (i+1)
theorem Zg9 (k:ByteArray):∀ (ks:List ByteArray) (i:Nat),Zbb (ks++[k]) i=Zbb ks i++[⟨k,true,i+ks.length⟩]
  | [],i=>by simp [Zbb]
  | a::ks,i=>by simp only [List.cons_append,Zbb,Zg9 k ks (i+1),List.length_cons]; rw [show i+1+ks.length=i+(ks.length+1) by omega]
def Zer (k:ByteArray) (ks:List ByteArray):Bool:=ks.any fun x=>decide (k=x)
theorem memB_iff {k:ByteArray} {ks:List ByteArray}:Zer k ks=true↔k∈ks:=by
 unfold Zer
 rw [List.any_eq_true]
 exact ⟨fun ⟨x,hx,h⟩=>by rw [of_decide_eq_true h]; exact hx,fun h=>⟨k,h,decide_eq_true rfl⟩⟩
theorem Zrb (k a:ByteArray) (ks:List ByteArray):Zer k (a::ks)=(decide (k=a) || Zer k ks):=rfl
theorem Zes (k:ByteArray):∀ (ks:List ByteArray) (i:Nat),JD k (Zbb ks i)=if Zer k ks=true then some true else none
  | [],i=>by simp [Zbb,JD,Zer]
  | a::ks,i=>by
    simp only [Zbb,JD,Zes k ks (i+1),Zrb]
    by_cases e:k=a
    · simp [e]
    · simp [e]
def Zbh (ks:List ByteArray):Obj:=Zgc boolV (Zbb ks 0) ks.length
theorem Zom (ks:List ByteArray) (k:ByteArray):Zgc boolV (Zbb ks 0++[⟨k,true,ks.length⟩]) (ks.length+1)=Zbh (ks++[k]):=by
 unfold Zbh
 rw [Zg9,Nat.zero_add,List.length_append]; rfl
section
variable {dm:List Deferred} {P:Program} {n:Nat} {Q:Exit→Act→World→Prop} {K:Act→World→Prop} {e:Env} {w0:World} {S:List Nat} {l:List HL} {d:Nat} {dst:Option Nat} {ty:TypeId} {pos:String} {aft:Array Edge} {gd:Option (Nat × Bool)}
theorem rd_seen (j:Nat) {t kt et:TypeId} {x y:Operand} {b:Nat} {ks:List ByteArray} {k:ByteArray} {size bytes:Nat} (hj:l[j]? = some (.obj b (Zbh ks))) (hu:P.underlying t=some (.map kt et)) (hk:P.underlying kt=some .string) (ht:TyF P et (.bool false) size bytes) (hx:e.ev x=some (.map (some b))) (hy:e.ev y=some (.string k)) :
    Rd P dm n e w0 S l ⟨dst,.lookup t x y false,ty,pos,aft,gd⟩ (.bool (Zer k ks)):=by
  have:=Zok (dm:=dm) (n:=n) (w0:=w0) (S:=S) (dst:=dst) (ty:=ty) (pos:=pos) (aft:=aft) (gd:=gd) j boolV (m:=Zbb ks 0) (nb:=ks.length) (k:=k) hj hu hk ht hx hy
  rw [Zes] at this
  cases h:Zer k ks with
  | true=>simpa [h] using this
  | false=>simpa [h] using this
theorem Zl9 {t:TypeId} {d:Nat} (hd:Nat.ble n d=false) (k:∀ b,GK dm n K ((d,.map (some b))::e) w0 S (.obj b (Zbh [])::l)) :
    GK dm n (fun a w=>Oper.wp P ⟨some d,.makeMap t none,ty,pos,aft,gd⟩ a w K Q) e w0 S l:=Zfp hd k
theorem op_see (i:Nat) {t kt et:TypeId} {x y z:Operand} {b:Nat} {ks:List ByteArray} {kk:ByteArray} (hu:P.underlying t=some (.map kt et)) (hk:P.underlying kt=some .string) (hx:e.ev x=some (.map (some b))) (hy:e.ev y=some (.string kk)) (hz:e.ev z=some (.bool true))
    (hi:l[i]? = some (.obj b (Zbh ks))) (hno:Zer kk ks=false) {l':List HL} (hl':l.set i (.obj b (Zbh (ks++[kk])))=l') (k:GK dm n K e w0 S l') :
    GK dm n (fun a w=>Oper.wp P ⟨none,.mapUpdate t x y z,ty,pos,aft,gd⟩ a w K Q) e w0 S l :=
  Zol i boolV (m:=Zbb ks 0) (nb:=ks.length) (v:=true) hu hk hx hy hz hi (by rw [Zes,if_neg (by rw [hno]; decide)]) (by rw [Zom]; exact hl') k
end
abbrev kv2 (a b:Int):Value:=.agg #[.int .i64 a,.int .i64 b]
structure I2 (P:Program) (t:TypeId) (f g:Field) (k k':IntKind):Prop where
  u:P.underlying t=some (.struct #[f,g])
  h:P.stoodInHeld t=false
  fn:(f.name == "_")=false
  gn:(g.name == "_")=false
  fo:f.offset=0
  go:g.offset=1
  fu:P.underlying f.type=some (.int k)
  gu:P.underlying g.type=some (.int k')
section
variable {P:Program} {t:TypeId} {f g:Field} {k k':IntKind}
theorem I2.fields (h:I2 P t f g k k'):P.fieldsOf t=#[f,g]:=by unfold Program.fieldsOf; rw [h.u]
theorem JE {E:TypeId} {k:IntKind} (hE:P.underlying E=some (.int k)) {cs:Array Value} {i:Nat} {v:Value} (hv:cs[i]? = some v) (w:World):(part E cs i).run P w=.ok v w:=by
 simp [part,Zca hE w,Zei,hv]
theorem Zet {a b:String} (h:(a == b)=false):a≠b:=fun e=>by subst e; simp at h
structure MP (β:Type) where
  a:Int
  b:Int
  v:β
  born:Nat
def MP.ent {β:Type} (val:β→Value) (x:MP β):MapEntry:=⟨kv2 x.a x.b,val x.v,x.born⟩
end
section
variable {dm:List Deferred} {P:Program} {n:Nat} {Q:Exit→Act→World→Prop} {K:Act→World→Prop} {e:Env} {w0:World} {S:List Nat} {l:List HL} {d:Nat} {dst:Option Nat} {ty:TypeId} {pos:String} {aft:Array Edge} {gd:Option (Nat × Bool)} {f g:Field} {q q':IntKind}
end
section
variable {dm:List Deferred} {P:Program} {n:Nat} {e:Env} {w0:World} {S:List Nat} {l:List HL} {dst:Option Tmp} {ty:TypeId} {pos:String} {aft:Array Edge} {gd:Option (Nat × Bool)} {x y:Operand} {t ty':TypeId}
theorem V4 {E:TypeId} {z:Value} {bytes N i:Nat} {k k2:IntKind} {cs:Array Value} {v:Value} (hu:P.underlying t=some (.array N E)) (hE:P.underlying E=some (.int k2)) (ht:TyF P E z 1 bytes) (hx:e.ev x=some (.agg cs)) (hy:e.ev y=some (.int k (i:Int))) (hi:i<N) (hv:cs[i]? = some v):Rd P dm n e w0 S l ⟨dst,.index t x y,ty,pos,aft,gd⟩ v :=
  fun a w hs ho=>by
    have hp:=JE hE hv w
    have hp2:(part E cs (i * 1)).run P w=.ok v w:=by rw [Nat.mul_one]; exact hp
    have h2:(0:Int)≤i∧(i:Int)<N:=by omega
    simp [execOp,hs.ev hx,hs.ev hy,Instr.index,asIntOf,run_underlying hu,hi,ht.runSize,hp]
theorem cs_mem {b:Nat} {cs:List Value} {ty:TypeId} (hm:HL.blk b cs ty∈l):∀ w,Own w0 S w l→Cells w ⟨b,0,none⟩ cs:=fun w ho=>by
 obtain ⟨i,hi⟩:=List.getElem?_of_mem hm
 exact ho.blkCells i hi
end
section
variable {P:Program} {fn:Func} {w0:World} {S:List Nat}
end
section
variable {dm:List Deferred} {P:Program} {n d:Nat} {o:Option Nat} {Q:Exit→Act→World→Prop} {ops:Array Oper} {e:Env} {w0:World} {S:List Nat} {l:List HL} {dst:Option Tmp} {ty:TypeId} {pos:String} {aft:Array Edge} {rest:List Oper}
theorem old_out {w0 w:World} {S:List Nat} {L:List HL} (ho:Own w0 S w L) {b:Nat} (hb:b<w0.heap.size) (hS:b ∉ S):b ∉ L.filterMap HL.block:=fun hm=>by
 obtain ⟨y,hy,hyb⟩:=List.mem_filterMap.1 hm
 rcases ho.place y hy b hyb with h | h
 ·exact hS h
 ·omega
end
section
variable {P:Program} {n:Nat} {e:Env} {w1:World} {S1:List Nat} {l hd:List HL} {I:Nat→List HL→Prop} {Ix:Code→Nat→List HL→Prop} {i:Nat}
end
theorem OldSl.sub {w:World} {S S':List Nat} {a:Option Addr} {m size:Nat} {cells:List Value} (h:OldSl w S a m size cells) (hs:∀ b∈S',b∈S):OldSl w S' a m size cells:=⟨h.len,h.isSome,h.cells,fun hm hb=>h.out hm (hs _ hb)⟩
section
variable {dm:List Deferred} {P:Program} {n:Nat} {Q:Exit→Act→World→Prop} {K:Act→World→Prop} {e:Env} {w0:World} {S:List Nat} {l:List HL} {d:Nat} {ty:TypeId} {pos:String} {aft:Array Edge} {gd:Option (Nat × Bool)}
end
section
variable {dm:List Deferred} {P:Program} {n:Nat} {e:Env} {w0:World} {S:List Nat} {l:List HL} {dst:Option Tmp} {ty:TypeId} {pos:String} {aft:Array Edge} {gd:Option (Nat × Bool)}
end
section
variable {dm:List Deferred} {P:Program} {n:Nat} {Q:Exit→Act→World→Prop} {K:Act→World→Prop} {e:Env} {w0:World} {S:List Nat} {l:List HL} {d:Nat} {dst:Option Tmp} {ty:TypeId} {pos:String} {aft:Array Edge} {gd:Option (Nat × Bool)}
end
section
variable {F:Fence} {P:Program} {b:Frame} {a:Act} {k:List Item} {cs:List Frame} {w:World} {Q:Exit→Act→World→Prop} {n:Nat}
end
section
variable {P:Program} {md:Region.Mode} {ops:Array Oper} {QN:Act→World→Prop} {o:Option Nat}
end
section
variable {dm:List Deferred} {P:Program} {n:Nat} {o:Option Nat} {Q:Exit→Act→World→Prop} {e:Env} {w0:World} {S:List Nat} {l:List HL}
variable {K:Act→World→Prop}
end
section
variable {dm:List Deferred} {P:Program} {n d:Nat} {Q:Exit→Act→World→Prop} {K:Act→World→Prop} {e:Env} {w0:World} {S:List Nat} {l:List HL} {dst:Option Tmp} {ty:TypeId} {pos:String} {aft:Array Edge} {gd:Option (Nat × Bool)}
end
end Go.Gv
namespace Go.Gv
section
variable {dm:List Deferred} {P:Program} {n:Nat} {Q:Exit→Act→World→Prop} {e:Env} {w0:World} {S:List Nat} {l:List HL}
end
end Go.Gv
namespace Go.Gv
open Go.RowKit
structure D3 (P:Program) (t:TypeId) (f g f1 f2:Field) (k k' k2:IntKind):Prop where
  u:P.underlying t=some (.struct #[f,g])
  h:P.stoodInHeld t=false
  fn:(f.name == "_")=false
  gn:(g.name == "_")=false
  fo:f.offset=0
  go:g.offset=2
  fi:I2 P f.type f1 f2 k k'
  fs:P.cellsOf f.type=2
  gu:P.underlying g.type=some (.int k2)
section
variable {P:Program} {t:TypeId} {f g f1 f2:Field} {k k' k2:IntKind}
theorem D3.fields (h:D3 P t f g f1 f2 k k' k2):P.fieldsOf t=#[f,g]:=by unfold Program.fieldsOf; rw [h.u]
end
section
variable {dm:List Deferred} {P:Program} {n:Nat} {e:Env} {w0:World} {S:List Nat} {l:List HL} {dst:Option Nat} {ty:TypeId} {pos:String} {aft:Array Edge} {gd:Option (Nat × Bool)} {f g f1 f2:Field} {q q' q2:IntKind}
end
section
variable {dm:List Deferred} {P:Program} {n:Nat} {Q:Exit→Act→World→Prop} {K:Act→World→Prop} {e:Env} {w0:World} {S:List Nat} {l:List HL} {d:Nat} {dst:Option Nat} {ty:TypeId} {pos:String} {aft:Array Edge} {gd:Option (Nat × Bool)}
end
section
variable {dm:List Deferred} {P:Program} {n:Nat} {Q:Exit→Act→World→Prop} {e:Env} {w0:World} {S:List Nat} {l:List HL}
end
section
variable {dm:List Deferred} {P:Program} {n:Nat} {Q:Exit→Act→World→Prop} {K:Act→World→Prop} {e:Env} {w0:World} {S:List Nat} {l:List HL} {o:Option Nat} {ops:Array Oper} {rest:List Oper} {dst:Option Tmp} {ty:TypeId} {pos:String} {aft:Array Edge}
theorem slMem {w:World} (ho:Own w0 S w l) {E:TypeId} {sz:Nat} {r:Option Nat} {m cap:Nat} {xs:List Value} (hm:HL.row E sz r m cap xs∈l):OldSl w [] (rowA r) m sz xs:=by
 obtain ⟨i,hi⟩:=List.getElem?_of_mem hm
 exact ho.rowSl i hi
theorem blkMem {w:World} (ho:Own w0 S w l) {b:Nat} {cs:List Value} {ty:TypeId} (k:Nat) (hk:cs.length=k) (hm:HL.blk b cs ty∈l):OldSl w [] (some ⟨b,0,none⟩) 1 k cs :=
  ⟨by rw [hk,Nat.one_mul],fun _=>rfl,cs_mem hm w ho,fun _=>by simp⟩
theorem OldSl.allOut {w:World} {a:Option Addr} {m size:Nat} {cells:List Value} (h:OldSl w0 S a m size cells) (ho:Own w0 S w l) (hs:0<size):OldSl w (l.filterMap HL.block) a m size cells :=
  ⟨h.len,h.isSome,(h.at ho).cells,fun hm=>old_out ho (h.lt hm hs) (h.out hm)⟩
theorem Zdo {id:Nat} {ops:List Oper} (A T:List HL) (idx:List Nat) (z:Bool) (h0:Nat) (hl:l=A++T) (hm:P.follows .mixedOrders=true) (h:GK dm n (YN P .any ops.toArray (IO w0 S (pick idx A++T)) z h0 (Y8 (Q .normal)) ops.length (Array.replicate ops.length false)) e w0 S (A++T)) :
    GK dm n ((Code.region id ops.toArray true).wp P Q) e w0 S l:=by subst hl; exact Zpz (pick idx A++T) z h0 hm h
end
section
variable {dm:List Deferred} {P:Program} {n:Nat} {Q:Exit→Act→World→Prop} {K:Act→World→Prop} {e:Env} {w0:World} {S:List Nat} {l:List HL} {dst:Option Tmp} {ty:TypeId} {pos:String} {aft:Array Edge} {gd:Option (Nat × Bool)}
theorem Wk {recv:Operand} {name:String} {xs:List Operand} {at_:Array TypeId} {vs:List Value} {t:TypeId} {v rv:Value} {F:FuncId} (hx:e.ev recv=some (.iface t v)) (hxs:e.evs xs=some vs)
    (hm:∀ w,(method (P.types.size+Made.depth) t v name).run P w=.ok (F,rv) w) (hcall:∀ args w,(callFunc F args).run P w=.ok (.enter F args) w)
    (h:GK dm n (fun a w=>Oper.wp P ⟨dst,.call { callee:=.value (.func F),args:=(.const rv::xs).toArray,argTypes:=at_ },ty,pos,aft,gd⟩ a w K Q) e w0 S l) :
    GK dm n (fun a w=>Oper.wp P ⟨dst,.call { callee:=.invoke recv name,args:=xs.toArray,argTypes:=at_ },ty,pos,aft,gd⟩ a w K Q) e w0 S l:=fun a w hs ho=>by
  have h1:=h a w hs ho
  have hev:=hs.evs hxs
  have e1:(execOp a.eval ⟨dst,.call { callee:=.value (.func F),args:=(.const rv::xs).toArray,argTypes:=at_ },ty,pos,aft,gd⟩).run P w=.ok (.enter F (rv::vs).toArray) w:=by
    have hc:e.ev (.func F)=some (.func (.func F) ([]:List Value).toArray ([]:List Value).toArray):=rfl
    have:=VD (dm:=dm) (P:=P) (n:=n) (e:=e) (dst:=dst) (ty:=ty) (pos:=pos) (aft:=aft) (gd:=gd) (F:=F) (vf:=[]) (vc:=[]) (x:=.func F) (xs:=.const rv::xs) (at_:=at_) (vs:=rv::vs) hs hc (by simp only [Env.evs,Env.ev,hxs]) hcall w
    simpa using this
  have e2:(execOp a.eval ⟨dst,.call { callee:=.invoke recv name,args:=xs.toArray,argTypes:=at_ },ty,pos,aft,gd⟩).run P w=.ok (.enter F (rv::vs).toArray) w:=by
    have h3:(callMethod (.iface t v) name vs.toArray).run P w=.ok (.enter F (rv::vs).toArray) w:=by
      simp only [callMethod]
      simp [hm,hcall]
    simp [execOp,resolve,invoke,hs.ev hx,hev,h3]
  have h2:Oper.wp P ⟨dst,.call { callee:=.value (.func F),args:=(.const rv::xs).toArray,argTypes:=at_ },ty,pos,aft,gd⟩ a w K Q:=h1
  show Oper.wp P ⟨dst,.call { callee:=.invoke recv name,args:=xs.toArray,argTypes:=at_ },ty,pos,aft,gd⟩ a w K Q
  unfold Oper.wp at h2 ⊢
  rw [e1,Oper.upon_enter] at h2
  rw [e2,Oper.upon_enter]
  exact h2
theorem Zkw {xt:TypeId} {x:Operand} {v r:Value} (hx:e.ev x=some v) (h:∀ w,(Instr.makeInterface xt v).run P w=.ok r w):Rd P dm n e w0 S l ⟨dst,.makeInterface xt x,ty,pos,aft,gd⟩ r:=fun a w hs ho=>by
 simp [execOp,hs.ev hx,h]
end
abbrev kv3 (a b c:Int):Value:=.agg #[.int .i64 a,.int .i64 b,.int .i64 c]
structure I3 (P:Program) (t:TypeId) (f g h9:Field) (k k' k2:IntKind):Prop where
  u:P.underlying t=some (.struct #[f,g,h9])
  h:P.stoodInHeld t=false
  fn:(f.name == "_")=false
  gn:(g.name == "_")=false
  hn:(h9.name == "_")=false
  fo:f.offset=0
  go:g.offset=1
  ho:h9.offset=2
  fu:P.underlying f.type=some (.int k)
  gu:P.underlying g.type=some (.int k')
  hu:P.underlying h9.type=some (.int k2)
section
variable {P:Program} {t:TypeId} {f g h9:Field} {k k' k2:IntKind}
theorem I3.fields (H:I3 P t f g h9 k k' k2):P.fieldsOf t=#[f,g,h9]:=by unfold Program.fieldsOf; rw [H.u]
theorem run_eqI3 (H:I3 P t f g h9 k k' k2) (N:Nat) (a b m c d n:Int) (w:World):(Op.equalIn (N+2) t (kv3 a b m) (kv3 c d n)).run P w=.ok (decide (a=c∧b=d∧m=n)) w:=by
 rw [run_equalIn_struct w (N+1) t _ _ (by rw [H.fields]; exact H.u) H.h,H.fields]
 have fn:=Zet H.fn
 have gn:=Zet H.gn
 have hn:=Zet H.hn
 have e1:∀ (x y:Int),(Op.equalIn (N+1) f.type (.int .i64 x) (.int .i64 y)).run P w=.ok (x == y) w:=fun x y=>run_equalIn_int w N f.type _ _ x y H.fu
 have e2:∀ (x y:Int),(Op.equalIn (N+1) g.type (.int .i64 x) (.int .i64 y)).run P w=.ok (x == y) w:=fun x y=>run_equalIn_int w N g.type _ _ x y H.gu
 have e3:∀ (x y:Int),(Op.equalIn (N+1) h9.type (.int .i64 x) (.int .i64 y)).run P w=.ok (x == y) w:=fun x y=>run_equalIn_int w N h9.type _ _ x y H.hu
 have p1:∀ (x y z:Value),(part f.type #[x,y,z] 0).run P w=.ok x w:=fun x y z=>JE H.fu rfl w
 have p2:∀ (x y z:Value),(part g.type #[x,y,z] 1).run P w=.ok y w:=fun x y z=>JE H.gu rfl w
 have p3:∀ (x y z:Value),(part h9.type #[x,y,z] 2).run P w=.ok z w:=fun x y z=>JE H.hu rfl w
 simp only [Op.eqFields,fn,gn,hn,H.fo,H.go,H.ho,ne_eq,not_false_eq_true,if_true,Sem.run_bind,p1,p2,p3,Result.andThen_ok,e1,e2,e3]
 by_cases h1:a=c
 ·subst h1
  by_cases h2:b=d
  ·subst h2
   by_cases h3:m=n
   ·subst h3; simp [p1,p2,p3,e1,e2,e3]
   ·simp [h3,p1,p2,p3,e1,e2,e3]
  ·simp [h2,p1,p2,p3,e1,e2,e3]
 ·simp [h1]
theorem Zfr (H:I3 P t f g h9 k k' k2) (a b m c d n:Int) (w:World):(Op.equal t (kv3 a b m) (kv3 c d n)).run P w=.ok (decide (a=c∧b=d∧m=n)) w:=run_eqI3 H 9998 a b m c d n w
end
section
variable {dm:List Deferred} {P:Program} {n:Nat} {e:Env} {w0:World} {S:List Nat} {l:List HL} {dst:Option Nat} {ty:TypeId} {pos:String} {aft:Array Edge} {gd:Option (Nat × Bool)} {f g h9:Field} {q q' q2:IntKind}
theorem Zma {t ty':TypeId} {x y:Operand} {a b m c d o:Int} (H:I3 P t f g h9 q q' q2) (hgt:P.eqGuardType P.depth t=false) (hx:e.ev x=some (kv3 a b m)) (hy:e.ev y=some (kv3 c d o)):Rd P dm n e w0 S l ⟨dst,.binOp .eql t x y ty',ty,pos,aft,gd⟩ (.bool (decide (a=c∧b=d∧m=o))):=fun ac w hs ho=>by
 simp [execOp,hs.ev hx,hs.ev hy,eqGuard,binOp,hgt,Zfr H]
theorem Zbi {t ty':TypeId} {x y:Operand} {a b m c d o:Int} (H:I3 P t f g h9 q q' q2) (hgt:P.eqGuardType P.depth t=false) (hx:e.ev x=some (kv3 a b m)) (hy:e.ev y=some (kv3 c d o)):Rd P dm n e w0 S l ⟨dst,.binOp .neq t x y ty',ty,pos,aft,gd⟩ (.bool (!decide (a=c∧b=d∧m=o))):=fun ac w hs ho=>by
 simp [execOp,hs.ev hx,hs.ev hy,eqGuard,binOp,hgt,Zfr H]
end
section
variable {P:Program} {F:FuncId} {args:List Value} {w0 w:World} {S:List Nat} {R R':Value→List HL→Prop}
theorem Own.inBlocks {l:List HL} (h:Own w0 S w l):Own w (l.filterMap HL.block) w l :=
  ⟨rfl,rfl,rfl,Nat.le_refl _,fun _ _ _=>rfl,h.holds,fun x hx b hb=>.inl (List.mem_filterMap.2 ⟨x,hx,hb⟩),h.nodup⟩
theorem Zdp (A B:List HL):Sub A (A++B):=⟨List.range A.length,List.nodup_range,(Zeo A B).symm⟩
theorem Zjd (A B:List HL):Sub B (A++B):=⟨(List.range B.length).map (· + A.length),List.Pairwise.map _ (fun a b hab=>by omega) List.nodup_range,(Ja A B).symm⟩
theorem Sp.monoS (h:Sp P F args w0 S R) (hr:∀ v l,R v l→∃ l',Sub l' l∧R' v l'):Sp P F args w0 S R' :=
  Calls.mono h fun e w' ⟨v,l,h1,h2,h3⟩=>by
    obtain ⟨l',hs,h4⟩:=hr v l h2
    exact ⟨v,l',h1,h4,h3.sub hs⟩
theorem Sp.frame {l1 l2:List HL} (hown:Own w0 S w0 (l1++l2)) (h:Own w0 (l1.filterMap HL.block) w0 l1→Sp P F args w0 (l1.filterMap HL.block) R):Sp P F args w0 S (fun v L=>∃ L1,R v L1∧L=L1++l2):=by
 have h1:=hown.sub (Zdp l1 l2)
 have h2:=hown.sub (Zjd l1 l2)
 refine Calls.mono (h h1.inBlocks) fun e w' ⟨v,L,he,hR,ho⟩=>⟨v,L++l2,he,⟨L,hR,rfl⟩,hown.called ho h2 (fun b hb=>?_) (fun x hx b hb hb2=>?_)⟩
 ·obtain ⟨x,hx,hxb⟩:=List.mem_filterMap.1 hb
  exact h1.place x hx b hxb
 ·have hn:=hown.nodup
  rw [List.filterMap_append,List.nodup_append] at hn
  exact hn.2.2 b hb2 b (List.mem_filterMap.2 ⟨x,hx,hb⟩) rfl
end
section
variable {dm:List Deferred} {P:Program} {n:Nat} {e:Env} {w0:World} {S:List Nat} {l:List HL} {dst:Option Tmp} {ty:TypeId} {pos:String} {aft:Array Edge} {gd:Option (Nat × Bool)} {t ty':TypeId} {x y:Operand}
theorem Zp3 {a b c:Nat} {yk:IntKind} (hx:e.ev x=some (.int .u8 a)) (hy:e.ev y=some (.int yk b)) (hb:b≤8) (hc:a * 2 ^ b=c) (ha:c<256):Rd P dm n e w0 S l ⟨dst,.binOp .shl t x y ty',ty,pos,aft,gd⟩ (.int .u8 (c:Int)) :=
  Jf hx hy (.inl rfl) fun w=>by
    subst hc
    have h1:min b 8=b:=by omega
    have h2:((a:Int) * 2 ^ b)=((a * 2 ^ b:Nat):Int):=by simp
    simp only [Op.shift,show ¬ ((b:Int)<0) by omega,if_false,IntKind.bits,Int.toNat_natCast,h1,h2]
    rw [JC ha]; rfl
theorem Zp4 {a b:Nat} {yk:IntKind} (hx:e.ev x=some (.int .u8 a)) (hy:e.ev y=some (.int yk b)) (hb:b≤8):Rd P dm n e w0 S l ⟨dst,.binOp .shr t x y ty',ty,pos,aft,gd⟩ (.int .u8 ((a >>> b:Nat):Int)) :=
  Jf hx hy (.inr rfl) fun w=>by
    have h4:(a:Int).fdiv (2 ^ (min b 8))=((a >>> b:Nat):Int):=by
      rw [Nat.shiftRight_eq_div_pow,Nat.min_eq_left hb,Int.fdiv_eq_ediv_of_nonneg _ (by exact_mod_cast Nat.zero_le _)]; simp
    simp only [Op.shift,show ¬ ((b:Int)<0) by omega,if_false,IntKind.bits,Int.toNat_natCast,h4]; rfl
end
section
variable {dm:List Deferred} {P:Program} {n:Nat} {Q:Exit→Act→World→Prop} {K:Act→World→Prop} {e:Env} {w0:World} {S:List Nat} {l:List HL} {d:Nat} {ty:TypeId} {pos:String} {aft:Array Edge} {gd:Option (Nat × Bool)}
end
theorem YL (k:Nat) {l l':List HL} (h:l.drop k=l'):Sub l' l:=by
 subst h
 have h:=Zjd (l.take k) (l.drop k)
 rwa [List.take_append_drop] at h
section
variable {dm:List Deferred} {P:Program} {n:Nat} {Q:Exit→Act→World→Prop} {K:Act→World→Prop} {e:Env} {w0:World} {S:List Nat} {l:List HL} {d:Nat} {ty:TypeId} {pos:String} {aft:Array Edge} {ops:Array Oper} {rest:List Oper}
theorem gA (h:GK dm n K e w0 S l):GK dm n (wpList P ops (Exit.then K Q) []) e w0 S l:=ZM (Ze h)
theorem gr {op:Op} {v:Value} (hd:Nat.ble n d=false) (hr:Rd P dm n e w0 S l ⟨some d,op,ty,pos,aft,none⟩ v) (k:GK dm n (wpList P ops Q rest) ((d,v)::e) w0 S l):GK dm n (wpList P ops Q (⟨some d,op,ty,pos,aft,none⟩::rest)) e w0 S l:=Zt (Zm hd hr k)
theorem gm {x:Operand} {v:Value} (hd:Nat.ble n d=false) (hx:e.ev x=some v) (k:GK dm n (wpList P ops Q rest) ((d,v)::e) w0 S l):GK dm n (wpList P ops Q (⟨some d,.move x,ty,pos,aft,none⟩::rest)) e w0 S l:=Zt (Zm hd (Zo hx) k)
theorem gas {x:Operand} {v:Value} (hd:Nat.ble n d=false) (hx:e.ev x=some v) (k:GK dm n (wpList P ops Q rest) ((d,v)::e) w0 S l):GK dm n (wpList P ops Q (⟨some d,.assign x,ty,pos,aft,none⟩::rest)) e w0 S l:=Zt (Zm hd (ZY hx) k)
theorem gnc {x:Operand} {ad:Addr} (hd:Nat.ble n d=false) (hx:e.ev x=some (.pointer (some ad))) (k:GK dm n (wpList P ops Q rest) ((d,.pointer (some ad))::e) w0 S l):GK dm n (wpList P ops Q (⟨some d,.nilCheck x,ty,pos,aft,none⟩::rest)) e w0 S l:=Zt (Zm hd (ZN hx) k)
end
section
variable {dm:List Deferred} {P:Program} {n:Nat} {e:Env} {w0:World} {S:List Nat} {l:List HL}
variable {ops:Array Oper} {z:Bool} {h0:Nat} {QN:Act→World→Prop} {lc:List HL} {f:Nat} {listed:Array Bool}
theorem Zc {o:Oper} {v:Value} {d:Nat} (i:Nat) (hi:ops[i]? = some o) (hdst:o.dst=some d) (hsub:Sub lc l) (hq:Qt P dm n e w0 S lc o v)
    (k:GK dm n (YN P .any ops (IO w0 S lc) z h0 (Y8 QN) f (listed.setIfInBounds i true)) ((d,v)::e) w0 S l) (hd:Nat.ble n d=false:=by exact rfl) (hg:o.guard=none:=by exact rfl) (hB:Zao ops listed z i h0=true:=by kernel_rfl):GK dm n (YN P .any ops (IO w0 S lc) z h0 (Y8 QN) (f+1) listed) e w0 S l:=ga_first i _ hi hdst hd hg hB rfl hsub hq k
theorem WC {o:Oper} {v:Value} {d:Nat} (i:Nat) (hi:ops[i]? = some o) (hdst:o.dst=some d) (hq:∀ w,Rd P dm n e w [] [] o v)
    (k:GK dm n (YN P .any ops (IO w0 S lc) z h0 (Y8 QN) f (listed.setIfInBounds i true)) ((d,v)::e) w0 S l) (hd:Nat.ble n d=false:=by exact rfl) (hg:o.guard=none:=by exact rfl) (hB:Zkn ops listed i h0=true:=by kernel_rfl):GK dm n (YN P .any ops (IO w0 S lc) z h0 (Y8 QN) (f+1) listed) e w0 S l:=Zq7 i _ hi hdst hd hg hB rfl hq k
theorem ZG {o:Oper} {v:Value} {d j dj:Nat} {b:Bool} (i:Nat) (hi:ops[i]? = some o) (hdst:o.dst=some d) (hg:o.guard=some (j,b)) (hj:(ops[j]?).bind (·.dst)=some dj) (hb:e.get dj=some (.bool b)) (hsub:Sub lc l) (hq:Qt P dm n e w0 S lc o v)
    (k:GK dm n (YN P .any ops (IO w0 S lc) z h0 (Y8 QN) f (listed.setIfInBounds i true)) ((d,v)::e) w0 S l) (hd:Nat.ble n d=false:=by exact rfl) (hB:Zao ops listed z i h0=true:=by kernel_rfl):GK dm n (YN P .any ops (IO w0 S lc) z h0 (Y8 QN) (f+1) listed) e w0 S l:=Zq8 i _ hi hdst hd hg hj hb hB rfl hsub hq k
theorem ZF {o:Oper} {d j dj:Nat} {b:Bool} (i:Nat) (hi:ops[i]? = some o) (hdst:o.dst=some d) (hg:o.guard=some (j,b)) (hj:(ops[j]?).bind (·.dst)=some dj) (hb:e.get dj=some (.bool (!b))) (hsub:Sub lc l)
    (k:GK dm n (YN P .any ops (IO w0 S lc) z h0 (Y8 QN) f (listed.setIfInBounds i true)) ((d,undef)::e) w0 S l) (hd:Nat.ble n d=false:=by exact rfl) (hB:Zao ops listed z i h0=true:=by kernel_rfl):GK dm n (YN P .any ops (IO w0 S lc) z h0 (Y8 QN) (f+1) listed) e w0 S l:=Zq9 i _ hi hdst hd hg hj hb hB rfl hsub k
theorem ZK {o:Oper} (i:Nat) (hi:ops[i]? = some o) (hsub:(z || !listed.getD h0 true)=false∨Sub lc l)
    (k:GK dm n (fun a w=>Oper.wp P o a w (YN P .any ops (IO w0 S lc) z h0 (Y8 QN) f (listed.setIfInBounds i true)) (Y8 QN)) e w0 S l) (hg:o.guard=none:=by exact rfl) (hB:decide (Region.ready .any ops listed=[i])=true:=by kernel_rfl):GK dm n (YN P .any ops (IO w0 S lc) z h0 (Y8 QN) (f+1) listed) e w0 S l:=ga_only i _ hi hg hB rfl hsub k
theorem ZP (hsub:(z || !listed.getD h0 true)=false∨Sub lc l) (k:GK dm n QN e w0 S l) (hB:(Region.ready .any ops listed).isEmpty=true:=by kernel_rfl):GK dm n (YN P .any ops (IO w0 S lc) z h0 (Y8 QN) 0 listed) e w0 S l:=ga_end hB hsub k
end
end Go.Gv
namespace Go.Gv
open Go.RowKit Go.Sort Go.Shelf Go.Proofs
theorem Zlh {α:Type} [Inhabited α] (enc:α→Value) (d:Array α) (c:Array Value) (h:d.size≤c.size):(putCells enc 0 d c).toList=d.toList.map enc++c.toList.drop d.size:=by
 apply List.ext_getElem?
 intro k
 rw [Array.getElem?_toList,putCells,Array.getElem?_mapIdx]
 by_cases hk:k<d.size
 ·rw [List.getElem?_append_left (by simpa using hk)]
  have h1:k<c.size:=by omega
  rw [Array.getElem?_eq_getElem h1]
  simp [hk]
 ·rw [List.getElem?_append_right (by simp; omega)]
  simp only [List.length_map,Array.length_toList,List.getElem?_drop]
  rw [show d.size+(k - d.size)=k by omega,Array.getElem?_toList]
  cases c[k]? with
  | none=>rfl
  | some v=>simp [hk]
theorem Zhz (w:World) (b k:Nat) (f:Array Value→Array Value) (h:k≠b):(mapBlock w b f).heap[k]? = w.heap[k]?:=by
 unfold mapBlock
 simp only [Array.getElem?_modify]
 rw [if_neg (Ne.symm h)]
theorem Zi5 (w:World) (b:Nat) (f:Array Value→Array Value) {c:Array Value} {E:TypeId} {fr:Nat × Nat} (h:w.heap[b]? = some (.cells c E fr)):(mapBlock w b f).heap[b]? = some (.cells (f c) E fr):=by
 unfold mapBlock
 simp only [Array.getElem?_modify,if_true,h]
 rfl
theorem Zrv {P:Program} {ρ:Ren} (Ly:Lays.n189 P ρ) (xs:List Int) (r:Option Nat) (cp:Nat) (S:List Nat) (w0:World) (hown:Own w0 S w0 [.row 3 1 r xs.length cp (xs.map fun z=>Value.int .i64 z)]) (hlen:xs.length≤1000000000) :
    Sp P (ρ.f 189) [.slice (rowA r) xs.length cp] w0 S (fun v l=>l=[.row 3 1 r xs.length cp ((xs.mergeSort fun x y=>decide (x≤y)).map fun z=>Value.int .i64 z)]):=by
  have hh:=hown.holds _ (List.mem_singleton.2 rfl)
  obtain ⟨h1,h2⟩:=hh
  cases r with
  | none =>
    obtain ⟨h3,h4⟩:=h2
    have hx:xs=[]:=List.eq_nil_of_length_eq_zero h3
    subst hx
    unfold Sp
    refine Calls.mono (Any.slices_Sort_int_none Ly none cp w0) fun e w' ⟨he,hw⟩=>?_
    subst hw
    exact ⟨_,_,he,rfl,by simpa using hown⟩
  | some g =>
    obtain ⟨cur,h3,h4,h5,h6,h7⟩:=h2
    have hlt:=lt_size h3
    have hsz:xs.length≤cur.size:=by omega
    have hH:Holds (Value.int .i64) w0 g 0 xs.toArray:=by
      intro j hj
      have hj2:j<xs.length:=by simpa using hj
      refine ⟨?_,by simp [World.frozen?,h3]⟩
      have h8:=hown.rowCell (i:=0) (off:=j) (v:=.int .i64 xs[j]) rfl (by simp [hj2])
      simp only [Option.getD_some] at h8
      rw [Nat.zero_add,h8]
      simp [hj2]
    unfold Sp
    refine Calls.mono (Any.slices_Sort_int Ly g 0 cp xs w0 hH hlt (by omega)) fun e w' ⟨he,n,os,hw⟩=>?_
    have hperm:=(xs.mergeSort_perm fun x y=>decide (x≤y)).length_eq
    have hw1:∀ k,k<w0.heap.size→w'.heap[k]? = (putRow (Value.int .i64) (Go.Sort.ahead w0 n) g 0 (xs.mergeSort fun x y=>decide (x≤y)).toArray).heap[k]?:=fun k hk=>by
      subst hw
      simp only [grow]
      rw [Array.getElem?_append_left]
      unfold putRow mapBlock
      simpa [Go.Sort.ahead] using hk
    refine ⟨_,[.row 3 1 (some g) xs.length cp ((xs.mergeSort fun x y=>decide (x≤y)).map fun z=>Value.int .i64 z)],he,rfl,?_⟩
    have:=hown.turn (i:=0) (w':=w') (y:=.row 3 1 (some g) xs.length cp ((xs.mergeSort fun x y=>decide (x≤y)).map fun z=>Value.int .i64 z)) rfl (by subst hw; rfl) (by subst hw; rfl) (by subst hw; rfl) (by
        subst hw
        simp only [grow,Array.size_append]
        unfold putRow mapBlock
        simp [Go.Sort.ahead]) (fun k hk hne=>by
        rw [hw1 k hk]
        unfold putRow
        rw [Zhz _ _ _ _ (fun e=>hne (by simp [HL.block,e]))]
        rfl) ?_ (fun k hk=>.inl hk)
    · simpa using this
    · refine ⟨by simp [hperm],putCells (Value.int .i64) 0 (xs.mergeSort fun x y=>decide (x≤y)).toArray cur,?_,h4,h5,?_,?_⟩
      · rw [hw1 g hlt]
        unfold putRow
        exact Zi5 _ _ _ (by simpa [Go.Sort.ahead] using h3)
      · unfold putCells; simpa using h6
      · have hl2:(xs.mergeSort fun x y=>decide (x≤y)).toArray.size≤cur.size:=by simp [hperm]; exact hsz
        rw [Zlh _ _ _ hl2]
        have e1:xs.length * 1=((xs.mergeSort fun x y=>decide (x≤y)).toArray.toList.map (Value.int .i64)).length:=by simp [hperm]
        rw [e1,List.take_left]
end Go.Gv
namespace Go.Gv
open Go.RowKit
section
variable {P:Program} {F:FuncId} {args:List Value} {w0 w:World} {S S':List Nat} {R R':Value→List HL→Prop}
theorem OldSl.mono {a:Option Addr} {m size:Nat} {cells:List Value} (h:OldSl w S a m size cells) (hs:0<size) (hS:∀ b∈S',b∈S∨w.heap.size≤b):OldSl w S' a m size cells :=
  ⟨h.len,h.isSome,h.cells,fun hm hb=>by
    rcases hS _ hb with h1 | h1
    · exact h.out hm h1
    · exact absurd (h.lt hm hs) (Nat.not_lt.2 h1)⟩
theorem Own.blocksIn {l l':List HL} (h:Own w0 S w0 l) (hs:Sub l' l):∀ b∈l'.filterMap HL.block,b∈S∨w0.heap.size≤b:=fun b hb=>by
 obtain ⟨x,hx,hxb⟩:=List.mem_filterMap.1 hb
 exact (h.sub hs).place x hx b hxb
theorem Sp.part {A B l:List HL} (hown:Own w0 S w0 l) (hs:Sub (A++B) l) (h:∀ S',(∀ b∈S',b∈S∨w0.heap.size≤b)→Own w0 S' w0 A→Sp P F args w0 S' R):Sp P F args w0 S (fun v L=>∃ L1,R v L1∧L=L1++B) :=
  Sp.frame (hown.sub hs) fun ho=>h _ ((hown.sub hs).blocksIn (Zdp A B)) ho
end
theorem Zfi {w0:World} {S:List Nat} {l:List HL} {a:Option Addr} {m size off f k:Nat} {cells cs:List Value} (h:OldSl w0 S a m size cells) (hcs:(cells.drop (off+f)).take k=cs):∀ w,Own w0 S w l→Cells w (((adr a).add off).add f) cs:=by
 rw [add_add]; exact Zi7 h hcs
theorem YD {α:Type} (f:α→List Value) (m:Nat) (hf:∀ x,(f x).length=m) {zs:List α} {k j n:Nat} {x:α} (h:zs[k]? = some x) (hjn:j+n≤m):((zs.flatMap f).drop (k * m+j)).take n=((f x).drop j).take n:=by
 have e:=Yf f m hf h
 rw [← List.drop_drop]
 conv=>rhs; rw [← e]
 rw [List.drop_take,List.take_take,Nat.min_eq_left (by omega)]
theorem Zkg {g:Nat→Bool} {k:Nat} (h:g k=true):(List.range (k+1)).filter g=(List.range k).filter g++[k]:=by
 rw [List.range_succ,List.filter_append]; simp [h]
theorem Zkh {g:Nat→Bool} {k:Nat} (h:g k=false):(List.range (k+1)).filter g=(List.range k).filter g:=by
 rw [List.range_succ,List.filter_append]; simp [h]
theorem Zq3 (g:Nat→Bool) (k:Nat):((List.range k).filter g).length≤k:=Nat.le_trans (List.length_filter_le _ _) (by simp)
end Go.Gv
namespace Go.Gv
variable {P:Program} {w0:World} {S:List Nat} {l:List HL}
theorem V8 (i:Nat) {E:TypeId} {sz:Nat} {a:Option Nat} {m cap:Nat} {xs cs:List Value} {off k f n:Nat} (hi:l[i]? = some (.row E sz a m cap xs)) (hcs:(xs.drop (off * k+f)).take n=cs):∀ w,Own w0 S w l→Cells w ((⟨a.getD 0,(off:Int).toNat * k,none⟩:Addr).add f) cs:=by
 rw [Addr.add_lit]; exact Zek i hi hcs
theorem OldSl.atT {w:World} {A T:List HL} {a:Option Addr} {m size:Nat} {cells:List Value} (h:OldSl w0 S a m size cells) (ho:Own w0 S w (A++T)) (hs:0<size):OldSl w (T.filterMap HL.block) a m size cells :=
  (h.allOut ho hs).sub fun b hb=>by
    obtain ⟨x,hx,hxb⟩:=List.mem_filterMap.1 hb
    exact List.mem_filterMap.2 ⟨x,List.mem_append_right _ hx,hxb⟩
theorem OldSl.atIn {w:World} {l':List HL} {a:Option Addr} {m size:Nat} {cells:List Value} (h:OldSl w0 S a m size cells) (ho:Own w0 S w l) (hs:0<size) (hl:∀ x∈l',x∈l):OldSl w (l'.filterMap HL.block) a m size cells :=
  (h.allOut ho hs).sub fun b hb=>by
    obtain ⟨x,hx,hxb⟩:=List.mem_filterMap.1 hb
    exact List.mem_filterMap.2 ⟨x,hl x hx,hxb⟩
theorem Zco {ic:List Nat} {B T:List HL}:∀ x∈pick ic B,x∈B++T:=fun x hx=>by
 unfold pick at hx
 obtain ⟨i,_,hi⟩:=List.mem_filterMap.1 hx
 exact List.mem_append_left _ (List.mem_of_getElem? hi)
end Go.Gv
