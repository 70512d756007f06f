import Derived.Test.YthcbcdjkfefnlaaGreatDoorW00
import Derived.Lib.ItoaNum
import Derived.Deep.Slices
import Derived.Deep.Strs
import Derived.SizedLaws
import Derived.Carry
import Derived.ProofKit
import Derived.OpenShut
import Derived.FnData
/- A part of the proof: the plain law. -/
set_option autoImplicit false
set_option linter.unusedSimpArgs false
set_option linter.unusedVariables false
set_option linter.unnecessarySimpa false
set_option maxRecDepth 100000
set_option maxHeartbeats 8000000
namespace Go.Sn
open Go.Gv
structure Dv where
  name:ByteArray
  lo:Int
  hi:Int
  deriving Inhabited
structure Rk where
  name:ByteArray
  kind:Int
  num:Int
  den:Int
  low:Int
  count:Int
  deriving Inhabited
structure Pt where
  rank:Int
  shift:Int
  lo:Int
  hi:Int
  deriving Inhabited
structure St where
  name:ByteArray
  div:Int
  num:Int
  den:Int
  pa:Option Addr
  pc:Nat
  ps:List Pt
  deriving Inhabited
structure Cp where
  name:ByteArray
  src:Int
  dst:Int
  shift:Int
  only:Int
  thr:Bool
  deriving Inhabited
structure Org where
  da:Option Addr
  dc:Nat
  ds:List Dv
  ra:Option Addr
  rc:Nat
  rs:List Rk
  sa:Option Addr
  sc:Nat
  ss:List St
  ca:Option Addr
  cc:Nat
  cs:List Cp
def Dv.cells (x:Dv):List Value:=[.string x.name,.int .i64 x.lo,.int .i64 x.hi]
def Rk.cells (x:Rk):List Value:=[.string x.name,.int .i64 x.kind,.int .i64 x.num,.int .i64 x.den,.int .i64 x.low,.int .i64 x.count]
def Pt.cells (x:Pt):List Value:=[.int .i64 x.rank,.int .i64 x.shift,.int .i64 x.lo,.int .i64 x.hi]
def St.cells (x:St):List Value:=[.string x.name,.int .i64 x.div,.int .i64 x.num,.int .i64 x.den,.slice x.pa x.ps.length x.pc]
def Cp.cells (x:Cp):List Value:=[.string x.name,.int .i64 x.src,.int .i64 x.dst,.int .i64 x.shift,.int .i64 x.only,.bool x.thr]
def Org.cells (s:Org):List Value:=[.slice s.da s.ds.length s.dc,.slice s.ra s.rs.length s.rc,.slice s.sa s.ss.length s.sc,.slice s.ca s.cs.length s.cc]
abbrev Dv.val (x:Dv):Value:=.agg #[.string x.name,.int .i64 x.lo,.int .i64 x.hi]
abbrev Rk.val (x:Rk):Value:=.agg #[.string x.name,.int .i64 x.kind,.int .i64 x.num,.int .i64 x.den,.int .i64 x.low,.int .i64 x.count]
abbrev Pt.val (x:Pt):Value:=.agg #[.int .i64 x.rank,.int .i64 x.shift,.int .i64 x.lo,.int .i64 x.hi]
abbrev St.val (x:St):Value:=.agg #[.string x.name,.int .i64 x.div,.int .i64 x.num,.int .i64 x.den,.slice x.pa x.ps.length x.pc]
abbrev Cp.val (x:Cp):Value:=.agg #[.string x.name,.int .i64 x.src,.int .i64 x.dst,.int .i64 x.shift,.int .i64 x.only,.bool x.thr]
abbrev Org.val (s:Org):Value:=.agg #[.slice s.da s.ds.length s.dc,.slice s.ra s.rs.length s.rc,.slice s.sa s.ss.length s.sc,.slice s.ca s.cs.length s.cc]
structure OrgIn (s:Org) (w:World) (S:List Nat):Prop where
  d:OldSl w S s.da s.ds.length 3 (s.ds.flatMap Dv.cells)
  r:OldSl w S s.ra s.rs.length 6 (s.rs.flatMap Rk.cells)
  t:OldSl w S s.sa s.ss.length 5 (s.ss.flatMap St.cells)
  c:OldSl w S s.ca s.cs.length 6 (s.cs.flatMap Cp.cells)
  p:∀ x∈s.ss,OldSl w S x.pa x.ps.length 4 (x.ps.flatMap Pt.cells)
structure OrgLe (s:Org):Prop where
  d:s.ds.length≤140737488355328
  r:s.rs.length≤140737488355328
  t:s.ss.length≤140737488355328
  c:s.cs.length≤140737488355328
  p:∀ x∈s.ss,x.ps.length≤140737488355328
  pc:∀ x∈s.ss,x.ps.length≤x.pc
  dn:∀ x∈s.ds,x.name.size≤140737488355328
  rn:∀ x∈s.rs,x.name.size≤140737488355328
  tn:∀ x∈s.ss,x.name.size≤140737488355328
  cn:∀ x∈s.cs,x.name.size≤140737488355328
theorem OrgIn.at {s:Org} {w0 w:World} {S:List Nat} {l:List HL} (h:OrgIn s w0 S) (ho:Own w0 S w l):OrgIn s w []:=⟨h.d.at ho,h.r.at ho,h.t.at ho,h.c.at ho,fun x hx=>(h.p x hx).at ho⟩
theorem OrgIn.atS {s:Org} {w0 w:World} {S Sc:List Nat} {l:List HL} (h:OrgIn s w0 S) (ho:Own w0 S w l) (hlt:∀ b∈Sc,w0.heap.size≤b):OrgIn s w Sc:=⟨h.d.atS ho (by decide) hlt,h.r.atS ho (by decide) hlt,h.t.atS ho (by decide) hlt,h.c.atS ho (by decide) hlt,fun x hx=>(h.p x hx).atS ho (by decide) hlt⟩
def Vf (c:Nat):Bool:=(decide (97≤c) && decide (c≤122)) || (decide (65≤c) && decide (c≤90))
def Zbj (c:Nat):Bool:=decide (48≤c) && decide (c≤57)
def X8 (s:ByteArray) (i:Nat):Nat:=(s.data.getD i 0).toNat
def JU (s:ByteArray) (i:Nat):Bool:=Vf (X8 s i) || (decide (i≠0) && (decide (X8 s i=95) || Zbj (X8 s i)))
def nameB (s:ByteArray):Bool:=(decide (1≤s.size) && decide (s.size≤16)) && (List.range s.size).all (JU s)
theorem Zon : ∀ c:Fin 256,(decide (97≤c.val ||| 32) && decide (c.val ||| 32≤122))=Vf c.val:=by decide
theorem Zrc (s:ByteArray) (i:Nat):X8 s i<256:=UInt8.toNat_lt _
theorem Ji (s:ByteArray) (i:Nat) (h:i<s.size):s[i]? = some (s.data.getD i 0):=by
 have:i<s.data.size:=h
 simp [getElem?_def,h,Array.getD_eq_getD_getElem?,ByteArray.getElem_eq_getElem_data]
theorem Zdq {s:ByteArray} {i:Nat} (h:i<s.size) (hb:JU s i=false):nameB s=false:=by
 unfold nameB
 have:(List.range s.size).all (JU s)=false:=by
  rw [List.all_eq_false]
  exact ⟨i,List.mem_range.2 h,by simp [hb]⟩
 simp [this]
theorem Zeu {s:ByteArray} (h:∀ i,i<s.size→JU s i=true):nameB s=(decide (1≤s.size) && decide (s.size≤16)):=by
 unfold nameB
 have:(List.range s.size).all (JU s)=true:=by
  rw [List.all_eq_true]; intro i hi; exact h i (List.mem_range.1 hi)
 simp [this]
theorem nameB_le {s:ByteArray} (h:nameB s=true):1≤s.size∧s.size≤16:=by
 unfold nameB at h
 simp only [Bool.and_eq_true,decide_eq_true_eq] at h
 exact h.1
def feetB (num den:Int):Bool:=decide (1≤den) && decide (den≤15) && decide (1≤num) && decide (num≤64 * den) && decide (Nat.gcd num.toNat den.toNat=1)
def Yt {β:Type} (g:Nat→Option β):Nat→Nat→Option (Nat × β)
  | 0,_=>none
  | n+1,i=>match g i with
    | some b=>some (i,b)
    | none=>Yt g n (i+1)
theorem XL {β:Type} (g:Nat→Option β) (b:β):∀ (n i k:Nat),i≤k→k<i+n→(∀ j,i≤j→j<k→g j=none)→g k=some b→Yt g n i=some (k,b)
  | 0,i,k,h1,h2,_,_=>by omega
  | n+1,i,k,h1,h2,h3,h4=>by
    by_cases e:i=k
    · subst e; simp [Yt,h4]
    · have h5:=h3 i (Nat.le_refl _) (by omega)
      simp only [Yt,h5]
      exact XL g b n (i+1) k (by omega) (by omega) (fun j h6 h7=>h3 j (by omega) h7) h4
theorem XC {β:Type} (g:Nat→Option β):∀ (n i:Nat),(∀ j,i≤j→j<i+n→g j=none)→Yt g n i=none
  | 0,_,_=>rfl
  | n+1,i,h=>by
    have h5:=h i (Nat.le_refl _) (by omega)
    simp only [Yt,h5]
    exact XC g n (i+1) fun j h6 h7=>h j (by omega) (by omega)
theorem Wb {β:Type} {g:Nat→Option β}:∀ {n i:Nat},Yt g n i=none→∀ j,i≤j→j<i+n→g j=none
  | 0,i,_,j,h1,h2=>by omega
  | n+1,i,h,j,h1,h2=>by
    cases hg:g i with
    | some b=>simp [Yt,hg] at h
    | none =>
      simp only [Yt,hg] at h
      by_cases e:i=j
      · subst e; exact hg
      · exact Wb h j (by omega) (by omega)
theorem VK {β:Type} {g:Nat→Option β}:∀ {n i k:Nat} {b:β},Yt g n i=some (k,b)→i≤k∧k<i+n∧g k=some b∧∀ j,i≤j→j<k→g j=none
  | 0,i,k,b,h=>by simp [Yt] at h
  | n+1,i,k,b,h=>by
    cases hg:g i with
    | some c =>
      simp only [Yt,hg,Option.some.injEq,Prod.mk.injEq] at h
      obtain ⟨rfl,rfl⟩:=h
      exact ⟨Nat.le_refl _,by omega,hg,fun j h1 h2=>by omega⟩
    | none =>
      simp only [Yt,hg] at h
      obtain ⟨h1,h2,h3,h4⟩:=VK h
      refine ⟨by omega,by omega,h3,fun j h5 h6=>?_⟩
      by_cases e:i=j
      · subst e; exact hg
      · exact h4 j (by omega) h6
def twice (names:Nat→ByteArray) (i:Nat):Bool:=(List.range i).any fun k=>decide (names k=names i)
theorem Zev {names:Nat→ByteArray} {i k:Nat} (h:k<i) (he:names k=names i):twice names i=true:=by
 unfold twice; rw [List.any_eq_true]; exact ⟨k,List.mem_range.2 h,by simp [he]⟩
theorem Yh {names:Nat→ByteArray} {i:Nat} (h:∀ k,k<i→names k≠names i):twice names i=false:=by
 unfold twice; rw [List.any_eq_false]; intro k hk; simp [h k (List.mem_range.1 hk)]
def VZ (d:Dv):Bool:=!(decide (0≤d.lo) && decide (d.lo≤127) && decide (d.lo≤d.hi) && decide (d.hi≤127) && decide (d.hi≤d.lo+60))
def dvN (l:List Dv) (k:Nat):ByteArray:=(l.getD k default).name
def rkN (l:List Rk) (k:Nat):ByteArray:=(l.getD k default).name
def cpN (l:List Cp) (k:Nat):ByteArray:=(l.getD k default).name
def Wt (l:List Dv) (i:Nat):Int:=if nameB (dvN l i)=false then 6 else if twice (dvN l) i then 8 else if VZ (l.getD i default) then 7 else 0
def Jj (r:Rk):Bool:=!(decide (1≤r.kind) && decide (r.kind≤4) && feetB r.num r.den)
def VM (r:Rk):Bool:=!(decide (1≤r.count) && decide (r.count≤97) && decide (0≤r.low) && decide (r.low≤128 - r.count))
def X1 (l:List Rk) (i:Nat):Int:=if nameB (rkN l i)=false then 6 else if twice (rkN l) i then 8 else if Jj (l.getD i default) then 2 else if VM (l.getD i default) then 7 else 0
def stTwice (l:List St) (i:Nat):Bool:=(List.range i).any fun k=>decide ((l.getD k default).div=(l.getD i default).div) && decide ((l.getD k default).name=(l.getD i default).name)
def Wc (i:Int) (n:Nat):Bool:=decide (0≤i) && decide (i<n)
def Wo (nd:Nat) (l:List St) (i:Nat):Int :=
  let x:=l.getD i default
  if nameB x.name=false then 6 else if Wc x.div nd=false then 4 else if stTwice l i then 8 else if (!feetB x.num x.den || decide (x.ps.length=0)) then 2 else if decide (12<x.ps.length) then 3 else 0
def Wp (d:Dv) (p:Pt):Bool:=decide (d.lo≤p.lo) && decide (p.lo≤p.hi) && decide (p.hi≤d.hi) && decide (-96≤p.shift) && decide (p.shift≤96)
def Zha (r:Rk) (p:Pt):Bool:=decide (r.low≤p.lo+p.shift) && decide (p.hi+p.shift<r.low+r.count)
def YV (rs:List Rk) (d:Dv) (p:Pt):Int:=if Wc p.rank rs.length=false then 4 else if Wp d p=false then 7 else if Zha (rs.getD p.rank.toNat default) p=false then 4 else 0
def YZ (c:Cp):Bool:=!((decide (c.shift = -12) || decide (c.shift=12) || (decide (c.shift=0) && decide (c.src≠c.dst))) && (decide (0≤c.only) && decide (c.only≤2)) && !(c.thr && decide (c.only≠0)))
def YW (nd:Nat) (l:List Cp) (i:Nat):Int :=
  let x:=l.getD i default
  if nameB (cpN l i)=false then 6 else if twice (cpN l) i then 8 else if (!Wc x.src nd || !Wc x.dst nd) then 4 else if YZ x then 2 else 0
def Xa (e:Int):Option (Nat × Int):=if e=0 then none else some (0,e)
def stO (s:Org) (i:Nat):Option (Nat × Int) :=
  if Wo s.ds.length s.ss i≠0 then some (0,Wo s.ds.length s.ss i)
  else match Yt (fun k=>let e:=YV s.rs (s.ds.getD ((s.ss.getD i default).div).toNat default) ((s.ss.getD i default).ps.getD k default); if e=0 then none else some e) (s.ss.getD i default).ps.length 0 with
    | some (k,e)=>some (k+1,e)
    | none=>none
structure Fault where
  what:Nat
  index:Nat
  part:Nat
def Fault.val (f:Fault):Value:=.agg #[.int .i64 (f.what:Int),.int .i64 (f.index:Int),.int .i64 (f.part:Int)]
def WM (s:Org):Bool:=decide (6<s.ds.length) || decide (40<s.rs.length) || decide (80<s.ss.length) || decide (24<s.cs.length)
def Yo (s:Org):Fault × Int :=
  if WM s then (⟨0,0,0⟩,3) else
  match Yt (fun i=>Xa (Wt s.ds i)) s.ds.length 0 with
  | some (i,k,e)=>(⟨1,i,k⟩,e)
  | none=>match Yt (fun i=>Xa (X1 s.rs i)) s.rs.length 0 with
    | some (i,k,e)=>(⟨2,i,k⟩,e)
    | none=>match Yt (stO s) s.ss.length 0 with
      | some (i,k,e)=>(⟨3,i,k⟩,e)
      | none=>match Yt (fun i=>Xa (YW s.ds.length s.cs i)) s.cs.length 0 with
        | some (i,k,e)=>(⟨4,i,k⟩,e)
        | none=>(⟨0,0,0⟩,0)
end Go.Sn
namespace Go.Sn
abbrev Pl := Nat × Nat
def YP : List Nat→List Nat→Bool
  | a::aS,b::bs=>if a=b then YP aS bs else decide (a<b)
  | _,_=>false
theorem V5 : ∀ a:List Nat,YP a a=false
  | []=>rfl
  | a::aS=>by simp [YP,V5 aS]
theorem Zbk : ∀ {a b:List Nat},YP a b=true→YP b a=false
  | [],_,h=>by simp [YP] at h
  | _::_,[],h=>by simp [YP] at h
  | a::aS,b::bs,h=>by
    simp only [YP] at h ⊢
    by_cases e:a=b
    · subst e; simp only [if_true] at h ⊢; exact Zbk h
    · have e2:¬ b=a:=fun h=>e h.symm
      simp only [e,e2,if_false,decide_eq_true_eq,decide_eq_false_iff_not] at h ⊢; omega
theorem Zfs : ∀ {a b c:List Nat},YP a b=true→YP b c=true→YP a c=true
  | [],_,_,h,_=>by simp [YP] at h
  | _::_,[],_,h,_=>by simp [YP] at h
  | _::_,_::_,[],_,h=>by simp [YP] at h
  | a::aS,b::bs,c::cs,h,h2=>by
    simp only [YP] at h h2 ⊢
    by_cases e:a=b
    · subst e
      simp only [if_true] at h
      by_cases e2:a=c
      · subst e2; simp only [if_true] at h2 ⊢; exact Zfs h h2
      · simp only [e2,if_false] at h2 ⊢; exact h2
    · simp only [e,if_false,decide_eq_true_eq] at h
      by_cases e2:b=c
      · subst e2; simp only [e,if_false,decide_eq_true_eq]; exact h
      · simp only [e2,if_false,decide_eq_true_eq] at h2
        have:¬ a=c:=by omega
        simp only [this,if_false,decide_eq_true_eq]; omega
theorem Zbl : ∀ {a b:List Nat},a.length=b.length→YP a b=false→YP b a=false→a=b
  | [],[],_,_,_=>rfl
  | [],_::_,h,_,_=>by simp at h
  | _::_,[],h,_,_=>by simp at h
  | a::aS,b::bs,h,h1,h2=>by
    simp only [YP] at h1 h2
    by_cases e:a=b
    · subst e
      simp only [if_true] at h1 h2
      rw [Zbl (by simpa using h) h1 h2]
    · have e2:¬ b=a:=fun h=>e h.symm
      simp only [e,e2,if_false,decide_eq_false_iff_not] at h1 h2; omega
theorem Jk : ∀ {a b:List Nat} (i j:Nat),a.length=b.length→YP (a++[i]) (b++[j])=(YP a b || (decide (a=b) && decide (i<j)))
  | [],[],i,j,_=>by
    by_cases e:i=j
    · subst e; simp [YP]
    · simp [YP,e]
  | [],_::_,_,_,h=>by simp at h
  | _::_,[],_,_,h=>by simp at h
  | a::aS,b::bs,i,j,h=>by
    have ih:=Jk (a:=aS) (b:=bs) i j (by simpa using h)
    simp only [List.cons_append,YP]
    by_cases e:a=b
    · subst e; simp [ih]
    · simp [e]
theorem Zje {a b c:List Nat} (hab:a.length=b.length) (hbc:b.length=c.length) (h1:YP a b=false) (h2:YP b c=false):YP a c=false:=by
 cases h:YP a c with
 | false=>rfl
 | true =>
  cases h3:YP c b with
  | true=>rw [Zfs h h3] at h1; cases h1
  | false =>
   have:=Zbl hbc h2 h3
   subst this
   rw [h] at h1; cases h1
structure Cx where
  ds:List Dv
  cs:List Cp
  ks:List (List Nat)
  dr:List Nat
def Cx.cp (A:Cx) (i:Nat):Cp:=A.cs.getD i default
def Cx.dv (A:Cx) (d:Nat):Dv:=A.ds.getD d default
def Cx.kd (A:Cx) (d:Nat):List Nat:=A.ks.getD d []
def Cx.tgt (A:Cx) (i:Nat) (p:Pl):Option Pl :=
  if (A.dv (A.cp i).dst.toNat).lo≤(p.2:Int)+(A.cp i).shift∧(p.2:Int)+(A.cp i).shift≤(A.dv (A.cp i).dst.toNat).hi then some ((A.cp i).dst.toNat,((p.2:Int)+(A.cp i).shift).toNat) else none
def Zkx (c:Cp) (l:List Nat):List Nat:=if l.length=0∨c.only=0 then l else if c.only=1 then l.take 1 else l.drop (l.length - 1)
def Cx.start (A:Cx) (i:Nat):List Pl:=(Zkx (A.cp i) (A.kd (A.cp i).src.toNat)).map fun k=>((A.cp i).src.toNat,k)
def Cx.goes (A:Cx) (i:Nat) (q:Pl):Bool:=(A.cp i).thr && decide ((A.cp i).src.toNat=q.1)
def Cx.nx (A:Cx) (cs:List Nat) (q:Pl) (i:Nat):Bool:=if cs=[] then decide (q∈A.start i) else A.goes i q
structure Cx.Ok (A:Cx):Prop where
  nd:A.ds.length≤6
  nk:A.ks.length=A.ds.length
  rng:∀ d,d<A.ds.length→0≤(A.dv d).lo∧(A.dv d).lo≤(A.dv d).hi∧(A.dv d).hi≤127
  key:∀ d,∀ k∈A.kd d,(A.dv d).lo≤(k:Int)∧(k:Int)≤(A.dv d).hi
  asc:∀ d,(A.kd d).Pairwise (· < ·)
  dra:A.dr.Pairwise (· < ·)
  drn:∀ i∈A.dr,i<A.cs.length
  src:∀ i,i<A.cs.length→0≤(A.cp i).src∧(A.cp i).src<A.ds.length
  dst:∀ i,i<A.cs.length→0≤(A.cp i).dst∧(A.cp i).dst<A.ds.length
  shf:∀ i,i<A.cs.length→-12≤(A.cp i).shift∧(A.cp i).shift≤12
  thr:∀ i,(A.cp i).thr=true→(A.cp i).only=0
theorem Zoo {c:Cp} {l:List Nat} {k:Nat} (h:k∈Zkx c l):k∈l:=by
 unfold Zkx at h
 split at h
 ·exact h
 ·split at h
  ·exact List.mem_of_mem_take h
  ·exact List.mem_of_mem_drop h
inductive Path (A:Cx):Pl→List Nat→Pl→Prop
  | played {p:Pl}:p.2∈A.kd p.1→Path A p [] p
  | step {p q q':Pl} {i:Nat} {cs:List Nat}:Path A p cs q→i∈A.dr→A.nx cs q i=true→A.tgt i q=some q'→Path A p (cs++[i]) q'
def Best (A:Cx) (p:Pl) (cs:List Nat) (q:Pl):Prop:=Path A p cs q∧∀ p' cs',Path A p' cs' q→cs.length<cs'.length∨(cs.length=cs'.length∧YP cs' cs=false)
section
variable {A:Cx}
theorem Path.nil {p q:Pl} {cs:List Nat} (h:Path A p cs q) (e:cs=[]):p=q∧q.2∈A.kd q.1:=by
 cases h with
 | played h=>exact ⟨rfl,h⟩
 | step _ _ _ _=>simp at e
theorem Path.snoc {p q':Pl} {cs:List Nat} {i:Nat} {cs0:List Nat} (h:Path A p cs0 q') (e:cs0=cs++[i]):∃ q,Path A p cs q∧i∈A.dr∧A.nx cs q i=true∧A.tgt i q=some q':=by
 cases h with
 | played h=>simp at e
 | step h1 h2 h3 h4 =>
  obtain ⟨e1,e2⟩:=List.append_inj' e rfl
  simp only [List.cons.injEq,and_true] at e2
  subst e1; subst e2
  exact ⟨_,h1,h2,h3,h4⟩
theorem Cx.start_mem {i:Nat} {q:Pl} (h:q∈A.start i):q.1=(A.cp i).src.toNat∧q.2∈A.kd q.1:=by
 unfold Cx.start at h
 obtain ⟨k,hk,rfl⟩:=List.mem_map.1 h
 exact ⟨rfl,Zoo hk⟩
theorem Cx.nx_src {cs:List Nat} {q:Pl} {i:Nat} (h:A.nx cs q i=true):q.1=(A.cp i).src.toNat:=by
 unfold Cx.nx at h
 split at h
 ·exact (Cx.start_mem (of_decide_eq_true h)).1
 ·simp only [Cx.goes,Bool.and_eq_true,decide_eq_true_eq] at h; exact h.2.symm
theorem Cx.tgt_key {i:Nat} {q q':Pl} (hA:A.Ok) (hi:i∈A.dr) (h:A.tgt i q=some q'):(q'.2:Int)=q.2+(A.cp i).shift∧q'.1=(A.cp i).dst.toNat∧q'.1<A.ds.length∧(A.dv q'.1).lo≤q'.2∧(q'.2:Int)≤(A.dv q'.1).hi:=by
 unfold Cx.tgt at h
 split at h
 ·rename_i h1
  cases h
  have h2:=hA.dst i (hA.drn i hi)
  have h4:=hA.rng (A.cp i).dst.toNat (by omega)
  refine ⟨by simp only; omega,rfl,by simp only; omega,by simp only; omega,by simp only; omega⟩
 ·cases h
theorem Path.uniq (hA:A.Ok) {cs:List Nat}:∀ (n:Nat) (p p' q:Pl) (cs:List Nat),cs.length=n→Path A p cs q→Path A p' cs q→p=p'
  | 0,p,p',q,cs,hn,h,h'=>by
    have e:cs=[]:=List.length_eq_zero_iff.1 hn
    rw [(h.nil e).1,(h'.nil e).1]
  | n+1,p,p',q,cs,hn,h,h'=>by
    have hne:cs≠[]:=fun e=>by simp [e] at hn
    have e:=(List.dropLast_concat_getLast hne).symm
    obtain ⟨q1,a1,a2,a3,a4⟩:=h.snoc e
    obtain ⟨q2,b1,b2,b3,b4⟩:=h'.snoc e
    have k1:=Cx.tgt_key hA a2 a4
    have k2:=Cx.tgt_key hA b2 b4
    have s1:=Cx.nx_src a3
    have s2:=Cx.nx_src b3
    have:q1=q2:=Prod.ext (by rw [s1,s2]) (by have:=k1.1; have:=k2.1; omega)
    subst this
    exact Path.uniq hA (cs:=[]) n p p' q1 _ (by simp [hn]) a1 b1
theorem Best.uniq (hA:A.Ok) {p p' q:Pl} {cs cs':List Nat} (h:Best A p cs q) (h':Best A p' cs' q):p=p'∧cs=cs':=by
 have h1:=h.2 _ _ h'.1
 have h2:=h'.2 _ _ h.1
 have hl:cs.length=cs'.length:=by omega
 have e:cs=cs':=Zbl hl (by rcases h2 with h2 | h2; omega; exact h2.2) (by rcases h1 with h1 | h1; omega; exact h1.2)
 subst e
 exact ⟨Path.uniq hA (cs:=[]) _ _ _ _ _ rfl h.1 h'.1,rfl⟩
theorem Cx.nx_less (hA:A.Ok) {cs cs2:List Nat} {p2 q:Pl} {i:Nat} (h:A.nx cs q i=true) (h2:Path A p2 cs2 q) (hl:cs2.length≤cs.length):A.nx cs2 q i=true:=by
 unfold Cx.nx at h ⊢
 by_cases e:cs=[]
 ·subst e
  have:cs2=[]:=List.length_eq_zero_iff.1 (by simpa using hl)
  subst this
  exact h
 ·simp only [e,if_false] at h
  by_cases e2:cs2=[]
  ·subst e2
   simp only [if_true,decide_eq_true_eq]
   simp only [Cx.goes,Bool.and_eq_true,decide_eq_true_eq] at h
   have:=(h2.nil rfl).2
   unfold Cx.start Zkx
   rw [if_pos (.inr (hA.thr i h.1))]
   refine List.mem_map.2 ⟨q.2,by rw [h.2]; exact this,?_⟩
   rw [h.2]
  ·simp only [e2,if_false]; exact h
abbrev Tab := Pl→Option (Pl × List Nat)
structure TabOk (A:Cx) (n:Nat) (T:Tab):Prop where
  best:∀ q v,T q=some v→Best A v.1 v.2 q∧v.2.length≤n
  all:∀ p cs q,Path A p cs q→cs.length≤n→∃ v,T q=some v
def Zdr (T:Tab) (q':Pl) (v:Pl × List Nat):Tab:=fun q=>if q=q' then (match T q' with
  | none=>some v
  | some old=>if old.2.length=v.2.length∧YP v.2 old.2=true then some v else some old) else T q
structure Proc (A:Cx) (n:Nat) (T0 T:Tab) (done:Pl→Nat→Prop):Prop where
  keep:∀ q v,T0 q=some v→T q=some v
  new:∀ q' v,T q'=some v→T0 q'=some v∨(T0 q'=none∧∃ q i v0,T0 q=some v0∧v0.2.length=n∧i∈A.dr∧A.nx v0.2 q i=true∧A.tgt i q=some q'∧v=(v0.1,v0.2++[i]))
  all:∀ q i v0 q',done q i→T0 q=some v0→v0.2.length=n→i∈A.dr→A.nx v0.2 q i=true→A.tgt i q=some q'→∃ v,T q'=some v∧(T0 q'=none→YP (v0.2++[i]) v.2=false)
theorem Proc.init {n:Nat} {T0:Tab}:Proc A n T0 T0 (fun _ _=>False):=⟨fun _ _ h=>h,fun _ _ h=>.inl h,fun _ _ _ _ h=>h.elim⟩
theorem Proc.weak {n:Nat} {T0 T:Tab} {done done':Pl→Nat→Prop} (h:Proc A n T0 T done) (hd:∀ q i v0 q',done' q i→T0 q=some v0→v0.2.length=n→i∈A.dr→A.nx v0.2 q i=true→A.tgt i q=some q'→done q i):Proc A n T0 T done' :=
  ⟨h.keep,h.new,fun q i v0 q' a b c d e f=>h.all q i v0 q' (hd q i v0 q' a b c d e f) b c d e f⟩
theorem Proc.len {n:Nat} {T0 T:Tab} {done:Pl→Nat→Prop} (h:Proc A n T0 T done) {q:Pl} {v:Pl × List Nat} (h0:T0 q=none) (hv:T q=some v):v.2.length=n+1:=by
 rcases h.new q v hv with h1 | ⟨_,q1,i,v0,_,h2,_,_,_,rfl⟩
 ·rw [h0] at h1; cases h1
 ·simp [h2]
theorem Proc.add {n:Nat} {T0 T:Tab} {done:Pl→Nat→Prop} (h:Proc A n T0 T done) (h0:TabOk A n T0) {q q':Pl} {i:Nat} {v0:Pl × List Nat} (hq:T0 q=some v0) (hn:v0.2.length=n) (hi:i∈A.dr) (hx:A.nx v0.2 q i=true) (ht:A.tgt i q=some q') :
    Proc A n T0 (Zdr T q' (v0.1,v0.2++[i])) (fun a b=>done a b∨(a=q∧b=i)):=by
  refine ⟨fun a v ha=>?_,fun a v ha=>?_,fun a b u0 a' hd hu hun hb hbx hbt=>?_⟩
  · have h1:=h.keep a v ha
    unfold Zdr
    split
    · rename_i e
      subst e
      rw [h1]
      have h2:=(h0.best a v ha).2
      simp only
      rw [if_neg]
      rintro ⟨h3,_⟩
      simp [hn] at h3
      omega
    · exact h1
  · unfold Zdr at ha
    split at ha
    · rename_i e
      subst e
      have hput:∀ u,T a=none∨(∃ old,T a=some old∧old.2.length=n+1)→some (v0.1,v0.2++[i])=some u→T0 a=some u∨(T0 a=none∧∃ q i v0,T0 q=some v0∧v0.2.length=n∧i∈A.dr∧A.nx v0.2 q i=true∧A.tgt i q=some a∧u=(v0.1,v0.2++[i])):=by
        intro u hT hu
        refine .inr ⟨?_,q,i,v0,hq,hn,hi,hx,ht,(Option.some.inj hu).symm⟩
        cases h4:T0 a with
        | none=>rfl
        | some z =>
          have h5:=h.keep a z h4
          have h6:=(h0.best a z h4).2
          rcases hT with hT | ⟨old,hT,hl⟩
          · rw [h5] at hT; cases hT
          · rw [h5] at hT; cases hT; omega
      cases hT:T a with
      | none=>rw [hT] at ha; exact hput v (.inl hT) ha
      | some old =>
        rw [hT] at ha
        simp only at ha
        split at ha
        · rename_i h3
          exact hput v (.inr ⟨old,hT,by simpa [hn] using h3.1⟩) ha
        · rw [← hT] at ha; exact h.new a v ha
    · exact h.new a v ha
  · have hbase:∀ u,T a'=some u→(T0 a'=none→YP (u0.2++[b]) u.2=false)→∃ v,Zdr T q' (v0.1,v0.2++[i]) a'=some v∧(T0 a'=none→YP (u0.2++[b]) v.2=false):=by
      intro u hu1 hu2
      unfold Zdr
      split
      · rename_i e
        subst e
        rw [hu1]
        simp only
        split
        · rename_i h3
          refine ⟨_,rfl,fun hno=>?_⟩
          have hl:=h.len hno hu1
          have h4:=hu2 hno
          -- new<u≤cand
          exact Zje (b:=u.2) (by simp [hl,hun]) (by rw [h3.1]) h4 (Zbk h3.2)
        · exact ⟨u,rfl,hu2⟩
      · exact ⟨u,hu1,hu2⟩
    rcases hd with hd | ⟨rfl,rfl⟩
    · obtain ⟨u,hu1,hu2⟩:=h.all a b u0 a' hd hu hun hb hbx hbt
      exact hbase u hu1 hu2
    · rw [hu] at hq; cases hq
      rw [hbt] at ht; cases ht
      cases hT:T q' with
      | none =>
        refine ⟨(v0.1,v0.2++[b]),?_,fun _=>V5 _⟩
        unfold Zdr; rw [if_pos rfl,hT]
      | some old =>
        by_cases h3:old.2.length=(v0.2++[b]).length∧YP (v0.2++[b]) old.2=true
        · refine ⟨(v0.1,v0.2++[b]),?_,fun _=>V5 _⟩
          unfold Zdr; rw [if_pos rfl,hT]; simp only; rw [if_pos h3]
        · refine ⟨old,?_,fun hno=>?_⟩
          · unfold Zdr; rw [if_pos rfl,hT]; simp only; rw [if_neg h3]
          have hl:=h.len hno hT
          have h4:old.2.length=(v0.2++[b]).length:=by simp [hl,hn]
          cases h5:YP (v0.2++[b]) old.2 with
          | false=>rfl
          | true=>exact absurd ⟨h4,h5⟩ h3
theorem Proc.skip {n:Nat} {T0 T:Tab} {done:Pl→Nat→Prop} (h:Proc A n T0 T done) {q:Pl} {i:Nat} (ht:A.tgt i q=none):Proc A n T0 T (fun a b=>done a b∨(a=q∧b=i)) :=
  h.weak fun a b v0 a' hd _ _ _ _ hbt=>by
    rcases hd with hd | ⟨rfl,rfl⟩
    · exact hd
    · rw [ht] at hbt; cases hbt
theorem Proc.finish (hA:A.Ok) {n:Nat} {T0 T:Tab} {done:Pl→Nat→Prop} (h0:TabOk A n T0) (h:Proc A n T0 T done) (hd:∀ q i v0 q',T0 q=some v0→v0.2.length=n→i∈A.dr→A.nx v0.2 q i=true→A.tgt i q=some q'→done q i):TabOk A (n+1) T:=by
 have compl:∀ p cs q,Path A p cs q→cs.length≤n+1→∃ v,T q=some v:=fun p cs q' hp hl=>by
  by_cases hl2:cs.length≤n
  ·obtain ⟨v,hv⟩:=h0.all p cs q' hp hl2
   exact ⟨v,h.keep q' v hv⟩
  ·have hne:cs≠[]:=fun e=>by simp [e] at hl2
   have e:=(List.dropLast_concat_getLast hne).symm
   obtain ⟨q,a1,a2,a3,a4⟩:=hp.snoc e
   obtain ⟨v0,hv0⟩:=h0.all _ _ _ a1 (by simp; omega)
   obtain ⟨b1,b2⟩:=h0.best q v0 hv0
   have b3:=b1.2 _ _ a1
   have b4:=Cx.nx_less hA a3 b1.1 (by omega)
   by_cases hln:v0.2.length=n
   ·obtain ⟨v,hv,_⟩:=h.all q _ v0 q' (hd q _ v0 q' hv0 hln a2 b4 a4) hv0 hln a2 b4 a4
    exact ⟨v,hv⟩
   ·obtain ⟨v,hv⟩:=h0.all _ _ _ (b1.1.step a2 b4 a4) (by simp; omega)
    exact ⟨v,h.keep q' v hv⟩
 refine ⟨fun q' v hv=>?_,compl⟩
 rcases h.new q' v hv with h1 | ⟨hno,q,i,v0,h1,h2,h3,h4,h5,rfl⟩
 ·obtain ⟨b1,b2⟩:=h0.best q' v h1
  exact ⟨b1,by omega⟩
 ·obtain ⟨b1,b2⟩:=h0.best q v0 h1
  refine ⟨⟨b1.1.step h3 h4 h5,fun p' cs' hp'=>?_⟩,by simp [h2]⟩
  have hgt:n<cs'.length:=by
   rcases Nat.lt_or_ge n cs'.length with h6 | h6
   ·exact h6
   ·obtain ⟨u,hu⟩:=h0.all _ _ _ hp' h6
    rw [hno] at hu; cases hu
  simp only [List.length_append,List.length_cons,List.length_nil,h2]
  by_cases hl:n+1<cs'.length
  ·exact .inl (by omega)
  ·refine .inr ⟨by omega,?_⟩
   have hne:cs'≠[]:=fun e=>by simp [e] at hgt
   have e:=(List.dropLast_concat_getLast hne).symm
   obtain ⟨q2,a1,a2,a3,a4⟩:=hp'.snoc e
   obtain ⟨u0,hu0⟩:=h0.all _ _ _ a1 (by simp; omega)
   obtain ⟨c1,c2⟩:=h0.best q2 u0 hu0
   have c3:=c1.2 _ _ a1
   have c4:=Cx.nx_less hA a3 c1.1 (by omega)
   have hdl:cs'.dropLast.length=n:=by simp; omega
   have hun:u0.2.length=n:=by
    rcases Nat.lt_or_ge u0.2.length n with h6 | h6
    ·obtain ⟨z,hz⟩:=h0.all _ _ _ (c1.1.step a2 c4 a4) (by simp; omega)
     rw [hno] at hz; cases hz
    ·omega
   obtain ⟨z,hz,hz2⟩:=h.all q2 _ u0 q' (hd q2 _ u0 q' hu0 hun a2 c4 a4) hu0 hun a2 c4 a4
   rw [hv] at hz; cases hz
   have h6:=hz2 hno
   have h7:YP cs' (u0.2++[cs'.getLast hne])=false:=by
    have h8:=Jk (a:=cs'.dropLast) (b:=u0.2) (cs'.getLast hne) (cs'.getLast hne) (by rw [hdl,hun])
    rw [← e] at h8
    rw [h8]
    rcases c3 with c3 | c3
    ·omega
    ·simp [c3.2]
   exact Zje (b:=u0.2++[cs'.getLast hne]) (by simp [hun]; omega) (by simp [hun,h2]) h7 h6
theorem TabOk.done (hA:A.Ok) {n:Nat} {T:Tab} (h:TabOk A n T) (hn:∀ q v,T q=some v→v.2.length≠n):∀ (m:Nat) (p:Pl) (cs:List Nat) (q:Pl),cs.length=m→Path A p cs q→∃ v,T q=some v
  | 0,p,cs,q,hm,hp=>h.all p cs q hp (by omega)
  | m+1,p,cs,q,hm,hp=>by
    have hne:cs≠[]:=fun e=>by simp [e] at hm
    have e:=(List.dropLast_concat_getLast hne).symm
    obtain ⟨q2,a1,a2,a3,a4⟩:=hp.snoc e
    obtain ⟨u0,hu0⟩:=TabOk.done hA h hn m p _ q2 (by simp [hm]) a1
    obtain ⟨c1,c2⟩:=h.best q2 u0 hu0
    have c3:=c1.2 _ _ a1
    have c4:=Cx.nx_less hA a3 c1.1 (by omega)
    have:=hn q2 u0 hu0
    exact h.all _ _ _ (c1.1.step a2 c4 a4) (by simp; omega)
structure Chains (A:Cx) (T:Tab):Prop where
  best:∀ q v,T q=some v→Best A v.1 v.2 q
  all:∀ p cs q,Path A p cs q→∃ v,T q=some v
theorem TabOk.chains (hA:A.Ok) {n:Nat} {T:Tab} (h:TabOk A n T) (hn:∀ q v,T q=some v→v.2.length≠n):Chains A T :=
  ⟨fun q v hv=>(h.best q v hv).1,fun p cs q hp=>h.done hA hn _ p cs q rfl hp⟩
theorem Chains.eq (hA:A.Ok) {T T':Tab} (h:Chains A T) (h':Chains A T'):T=T':=by
 funext q
 cases hT:T q with
 | none =>
  cases hT':T' q with
  | none=>rfl
  | some v =>
   obtain ⟨u,hu⟩:=h.all _ _ _ (h'.best q v hT').1
   rw [hT] at hu; cases hu
 | some v =>
  obtain ⟨u,hu⟩:=h'.all _ _ _ (h.best q v hT).1
  have:=(h.best q v hT).uniq hA (h'.best q u hu)
  rw [hu]
  exact congrArg some (Prod.ext this.1 this.2)
theorem Chains.has {T:Tab} (h:Chains A T) (q:Pl):(∃ v,T q=some v)↔∃ p cs,Path A p cs q :=
  ⟨fun ⟨v,hv⟩=>⟨_,_,(h.best q v hv).1⟩,fun ⟨p,cs,hp⟩=>h.all p cs q hp⟩
theorem Path.rng (hA:A.Ok) {p q:Pl} {cs:List Nat} (h:Path A p cs q):(A.dv q.1).lo≤q.2∧(q.2:Int)≤(A.dv q.1).hi:=by
 cases h with
 | played h=>exact hA.key _ _ h
 | step h1 h2 h3 h4=>have:=Cx.tgt_key hA h2 h4; exact ⟨this.2.2.2.1,this.2.2.2.2⟩
theorem kd_lt (hA:A.Ok) {d k:Nat} (h:k∈A.kd d):d<A.ds.length:=by
 rcases Nat.lt_or_ge d A.ds.length with h1 | h1
 ·exact h1
 ·unfold Cx.kd at h
  rw [List.getD_eq_getElem?_getD,List.getElem?_eq_none (by rw [hA.nk]; exact h1)] at h
  simp at h
theorem Path.lt (hA:A.Ok) {p q:Pl} {cs:List Nat} (h:Path A p cs q):q.1<A.ds.length:=by
 cases h with
 | played h=>exact kd_lt hA h
 | step h1 h2 h3 h4=>have:=Cx.tgt_key hA h2 h4; exact this.2.2.1
theorem Path.key (hA:A.Ok) {p q:Pl} {cs:List Nat} (h:Path A p cs q):q.2<128:=by
 have h1:=h.rng hA
 have h2:=hA.rng _ (h.lt hA)
 omega
end
structure En where
  q:Pl
  i:Int
  p:Pl
  org:Pl
  ch:List Nat
  deriving Inhabited
structure AS where
  sets:List Nat
  tb:List En
  deriving Inhabited
def tabOf (l:List En):Tab:=fun q=>(l.find? fun e=>decide (e.q=q)).map fun e=>(e.org,e.ch)
def hasS (sets:List Nat) (q:Pl):Bool:=(sets.getD q.1 0).testBit q.2
def JV (sets:List Nat) (q:Pl):List Nat:=sets.set q.1 (sets.getD q.1 0 ||| 2 ^ q.2)
def Zew (l:List En) (q:Pl) (i:Nat) (p:Pl):En:=match tabOf l p with
  | some v=>⟨q,i,p,v.1,v.2++[i]⟩
  | none=>⟨q,i,p,p,[i]⟩
def Vu (st:AS) (q:Pl):AS:=⟨JV st.sets q,st.tb++[⟨q,-1,(0,0),q,[]⟩]⟩
def Zce (A:Cx):List Pl:=(List.range A.ks.length).flatMap fun d=>(A.kd d).map fun k=>(d,k)
def st0 (A:Cx):AS:=(Zce A).foldl Vu ⟨List.replicate A.ds.length 0,[]⟩
def stepR (A:Cx) (i:Nat) (x:AS × List Pl) (p:Pl):AS × List Pl:=match A.tgt i p with
  | some q=>if hasS x.1.sets q then x else (⟨JV x.1.sets q,x.1.tb++[Zew x.1.tb q i p]⟩,x.2++[q])
  | none=>x
def Vg (A:Cx) (i:Nat) (l:List Pl) (st:AS):AS × List Pl:=l.foldl (stepR A i) (st,[])
abbrev GS := AS × List (List Pl)
def Zex (A:Cx) (x:GS) (i:Nat):GS:=((Vg A i (A.start i) x.1).1,x.2++[(Vg A i (A.start i) x.1).2])
def firstG (A:Cx) (st:AS):GS:=A.dr.foldl (Zex A) (st,[])
def goesL (A:Cx) (i:Nat) (l:List Pl):Bool:=match l with
  | []=>false
  | q::_=>A.goes i q
def Zjf (A:Cx) (l:List Pl) (x:GS) (i:Nat):GS:=if goesL A i l then ((Vg A i l x.1).1,x.2++[(Vg A i l x.1).2]) else x
def nextL (A:Cx) (x:GS) (l:List Pl):GS:=A.dr.foldl (Zjf A l) x
def nextG (A:Cx) (x:GS):GS:=((x.2.foldl (nextL A) (x.1,[])).1,(x.2.foldl (nextL A) (x.1,[])).2.filter fun l=>decide (l≠[]))
def lev (A:Cx):Nat→GS
  | 0=>firstG A (st0 A)
  | n+1=>nextG A (lev A n)
def fuelA (A:Cx):Nat:=1000+A.ds.length
def actP (A:Cx):AS:=(lev A (fuelA A)).1
section
variable {A:Cx}
theorem Xj (l:List En) (e:En) (q:Pl):tabOf (l++[e]) q=match tabOf l q with | some v=>some v | none=>if e.q=q then some (e.org,e.ch) else none:=by
 unfold tabOf
 rw [List.find?_append]
 cases h:l.find? (fun e=>decide (e.q=q)) with
 | some v=>simp
 | none =>
  simp only [Option.none_or,Option.map_none,List.find?_cons,List.find?_nil]
  by_cases h2:e.q=q <;> simp [h2]
structure SetOk (A:Cx) (st:AS):Prop where
  len:st.sets.length=A.ds.length
  has:∀ q:Pl,q.1<A.ds.length→(hasS st.sets q=true↔∃ v,tabOf st.tb q=some v)
  lt:∀ x∈st.sets,x<2 ^ 128
  rng:∀ q v,tabOf st.tb q=some v→q.1<A.ds.length∧q.2<128
theorem Zmb {x k:Nat} (hx:x<2 ^ 128) (hk:k<128):x ||| 2 ^ k<2 ^ 128:=Nat.or_lt_two_pow hx (Nat.pow_lt_pow_right (by decide) hk)
theorem getD_lt {sets:List Nat} (h:∀ x∈sets,x<2 ^ 128) (d:Nat):sets.getD d 0<2 ^ 128:=by
 rcases Nat.lt_or_ge d sets.length with h1 | h1
 ·rw [List.getD_eq_getElem?_getD,List.getElem?_eq_getElem h1]; exact h _ (List.getElem_mem h1)
 ·rw [List.getD_eq_getElem?_getD,List.getElem?_eq_none h1]; exact Nat.two_pow_pos 128
theorem Zmc {sets:List Nat} {q q':Pl} (h:q.1<sets.length):hasS (JV sets q) q'=(hasS sets q' || decide (q'=q)):=by
 unfold hasS JV
 rw [Gv.getD_set _ _ _ _ h]
 by_cases e:q.1=q'.1
 ·rw [if_pos e,← e,Nat.testBit_or,Nat.testBit_two_pow]
  by_cases e2:q.2=q'.2
  ·have:q'=q:=Prod.ext e.symm e2.symm
   simp [this]
  ·have:¬ q'=q:=fun h=>e2 (by rw [h])
   simp [this,e2]
 ·have:¬ q'=q:=fun h=>e (by rw [h])
  simp [e,this]
theorem SetOk.put {st:AS} (h:SetOk A st) {q:Pl} (hq:q.1<A.ds.length) (hk:q.2<128) {e:En} (he:e.q=q):SetOk A ⟨JV st.sets q,st.tb++[e]⟩:=by
 refine ⟨by simp [JV,h.len],fun q' hq'=>?_,fun x hx=>?_,fun q' v hv=>?_⟩
 ·simp only
  rw [Zmc (by rw [h.len]; exact hq),Xj,he,Bool.or_eq_true,h.has q' hq',decide_eq_true_eq]
  cases h2:tabOf st.tb q' with
  | some v=>simp
  | none =>
   by_cases h3:q'=q
   ·subst h3; simp
   ·have h4:¬ q=q':=fun h=>h3 h.symm
    simp [h3,h4]
 ·simp only [JV] at hx
  rcases List.mem_or_eq_of_mem_set hx with h1 | h1
  ·exact h.lt x h1
  ·rw [h1]; exact Zmb (getD_lt h.lt _) hk
 ·simp only at hv
  rw [Xj] at hv
  cases h2:tabOf st.tb q' with
  | some u=>exact h.rng q' u h2
  | none =>
   rw [h2] at hv
   simp only [he] at hv
   split at hv
   ·rename_i h3; subst h3; exact ⟨hq,hk⟩
   ·cases hv
structure Rch (A:Cx) (n:Nat) (T0:Tab) (cur:List Nat) (st:AS) (done:Pl→Nat→Prop):Prop where
  set:SetOk A st
  proc:Proc A n T0 (tabOf st.tb) done
  cur:∀ q v,tabOf st.tb q=some v→T0 q=none→v.2=cur∨YP v.2 cur=true
theorem stepR_ok (hA:A.Ok) {n:Nat} {T0:Tab} (h0:TabOk A n T0) {i:Nat} {cs:List Nat} {st:AS} {out:List Pl} {done:Pl→Nat→Prop} {p:Pl} {v0:Pl × List Nat} (hn:cs.length=n) (hi:i∈A.dr) (hp:T0 p=some v0) (hv0:v0.2=cs) (hx:A.nx cs p i=true)
    (h:Rch A n T0 (cs++[i]) st done) (ho:∀ q∈out,T0 q=none∧(∃ v,tabOf st.tb q=some v∧v.2=cs++[i])∧q.1=(A.cp i).dst.toNat) :
    let r:=stepR A i (st,out) p
    Rch A n T0 (cs++[i]) r.1 (fun a b=>done a b∨(a=p∧b=i))∧(∀ q∈r.2,T0 q=none∧(∃ v,tabOf r.1.tb q=some v∧v.2=cs++[i])∧q.1=(A.cp i).dst.toNat)∧(∀ q v,tabOf st.tb q=some v→tabOf r.1.tb q=some v)∧(∀ q v,tabOf r.1.tb q=some v→tabOf st.tb q=some v∨q∈r.2)∧(∀ q∈out,q∈r.2):=by
  subst hv0
  simp only [stepR]
  cases ht:A.tgt i p with
  | none=>exact ⟨⟨h.set,h.proc.skip ht,h.cur⟩,ho,fun _ _ h=>h,fun _ _ h=>.inl h,fun _ h=>h⟩
  | some q =>
    simp only
    have htk:=Cx.tgt_key hA hi ht
    have hrq:=hA.rng q.1 htk.2.2.1
    by_cases hh:hasS st.sets q=true
    · rw [if_pos hh]
      obtain ⟨old,hold⟩:=(h.set.has q htk.2.2.1).1 hh
      have hadd:=h.proc.add h0 hp hn hi hx ht
      have e:Zdr (tabOf st.tb) q (v0.1,v0.2++[i])=tabOf st.tb:=by
        funext a
        unfold Zdr
        split
        · rename_i e; subst e
          rw [hold]
          simp only
          rw [if_neg]
          rintro ⟨h1,h2⟩
          have hno:T0 a=none:=by
            cases h3:T0 a with
            | none=>rfl
            | some z =>
              have h4:=h.proc.keep a z h3
              rw [hold] at h4; cases h4
              have:=(h0.best a old h3).2
              simp [hn] at h1; omega
          rcases h.cur a old hold hno with h4 | h4
          · rw [h4,V5] at h2; cases h2
          · rw [Zbk h4] at h2; cases h2
        · rfl
      rw [e] at hadd
      exact ⟨⟨h.set,hadd,h.cur⟩,ho,fun _ _ h=>h,fun _ _ h=>.inl h,fun _ h=>h⟩
    · rw [if_neg hh]
      have hnone:tabOf st.tb q=none:=by
        cases h2:tabOf st.tb q with
        | none=>rfl
        | some v=>exact absurd ((h.set.has q htk.2.2.1).2 ⟨v,h2⟩) hh
      have hpt:tabOf st.tb p=some v0:=h.proc.keep p v0 hp
      have een:Zew st.tb q i p=⟨q,i,p,v0.1,v0.2++[i]⟩:=by unfold Zew; rw [hpt]
      have etab:tabOf (st.tb++[Zew st.tb q i p])=Zdr (tabOf st.tb) q (v0.1,v0.2++[i]):=by
        funext a
        rw [Xj,een]
        unfold Zdr
        by_cases h2:a=q
        · subst h2; simp [hnone]
        · have h3:¬ q=a:=fun h=>h2 h.symm
          simp only [h2,h3,if_false]
          cases tabOf st.tb a <;> rfl
      have hadd:=h.proc.add h0 hp hn hi hx ht
      have hq0:T0 q=none:=by
        cases h3:T0 q with
        | none=>rfl
        | some z=>rw [h.proc.keep q z h3] at hnone; cases hnone
      have key:∀ a v,tabOf (st.tb++[Zew st.tb q i p]) a=some v→tabOf st.tb a=some v∨(a=q∧v=(v0.1,v0.2++[i])):=fun a v ha=>by
        rw [Xj,een] at ha
        cases h2:tabOf st.tb a with
        | some u=>rw [h2] at ha; exact .inl ha
        | none =>
          rw [h2] at ha
          simp only at ha
          split at ha
          · rename_i h3; cases ha; exact .inr ⟨h3.symm,rfl⟩
          · cases ha
      have keep:∀ a v,tabOf st.tb a=some v→tabOf (st.tb++[Zew st.tb q i p]) a=some v:=fun a v ha=>by
        rw [Xj,ha]
      refine ⟨⟨h.set.put htk.2.2.1 (by omega) (by rw [een]),by rw [etab]; exact hadd,fun a v ha hno=>?_⟩,fun a ha=>?_,keep,fun a v ha=>?_,fun a ha=>List.mem_append_left _ ha⟩
      · rcases key a v ha with h2 | ⟨rfl,rfl⟩
        · exact h.cur a v h2 hno
        · exact .inl rfl
      · rcases List.mem_append.1 ha with h2 | h2
        · obtain ⟨o1,⟨v,o2,o3⟩,o4⟩:=ho a h2
          exact ⟨o1,⟨v,keep a v o2,o3⟩,o4⟩
        · have:=List.mem_singleton.1 h2
          subst this
          refine ⟨hq0,⟨(v0.1,v0.2++[i]),?_,rfl⟩,htk.2.1⟩
          show tabOf (st.tb++[Zew st.tb a i p]) a=_
          rw [Xj,hnone,een]; simp
      · rcases key a v ha with h2 | ⟨rfl,rfl⟩
        · exact .inl h2
        · exact .inr (by simp)
theorem Zhb (hA:A.Ok) {n:Nat} {T0:Tab} (h0:TabOk A n T0) {i:Nat} {cs:List Nat} (hn:cs.length=n) (hi:i∈A.dr) :
    ∀ (l:List Pl) (st:AS) (out:List Pl) (done:Pl→Nat→Prop),(∀ p∈l,(∃ v0,T0 p=some v0∧v0.2=cs)∧A.nx cs p i=true)→Rch A n T0 (cs++[i]) st done→(∀ q∈out,T0 q=none∧(∃ v,tabOf st.tb q=some v∧v.2=cs++[i])∧q.1=(A.cp i).dst.toNat) →
      let r:=l.foldl (stepR A i) (st,out)
      Rch A n T0 (cs++[i]) r.1 (fun a b=>done a b∨(a∈l∧b=i))∧(∀ q∈r.2,T0 q=none∧(∃ v,tabOf r.1.tb q=some v∧v.2=cs++[i])∧q.1=(A.cp i).dst.toNat)∧(∀ q v,tabOf st.tb q=some v→tabOf r.1.tb q=some v)∧(∀ q v,tabOf r.1.tb q=some v→tabOf st.tb q=some v∨q∈r.2)∧(∀ q∈out,q∈r.2)
  | [],st,out,done,hl,h,ho=>⟨⟨h.set,h.proc.weak (fun q i v0 q' hd _ _ _ _ _=>by simpa using hd),h.cur⟩,ho,fun _ _ h=>h,fun _ _ h=>.inl h,fun _ h=>h⟩
  | p::l,st,out,done,hl,h,ho=>by
    obtain ⟨⟨v0,hp,hv⟩,hx⟩:=hl p List.mem_cons_self
    obtain ⟨a1,a2,a3,a4,a5⟩:=stepR_ok hA h0 hn hi hp hv hx h ho
    obtain ⟨b1,b2,b3,b4,b5⟩:=Zhb hA h0 hn hi l (stepR A i (st,out) p).1 (stepR A i (st,out) p).2 _ (fun p' h'=>hl p' (List.mem_cons_of_mem _ h')) a1 a2
    simp only [List.foldl_cons]
    refine ⟨⟨b1.set,b1.proc.weak (fun q j v0 q' hd _ _ _ _ _=>?_),b1.cur⟩,b2,fun q v hq=>b3 q v (a3 q v hq),fun q v hq=>?_,fun q hq=>b5 q (a5 q hq)⟩
    · rcases hd with hd | ⟨hd,rfl⟩
      · exact .inl (.inl hd)
      · rcases List.mem_cons.1 hd with rfl | hd
        · exact .inl (.inr ⟨rfl,rfl⟩)
        · exact .inr ⟨hd,rfl⟩
    · rcases b4 q v hq with h2 | h2
      · rcases a4 q v h2 with h3 | h3
        · exact .inl h3
        · exact .inr (b5 q h3)
      · exact .inr h2
structure Grp (A:Cx) (n:Nat) (T0:Tab) (x:GS) (L:List (List Nat × List Pl)) (done:Pl→Nat→Prop):Prop where
  set:SetOk A x.1
  proc:Proc A n T0 (tabOf x.1.tb) done
  eq:x.2=L.map Prod.snd
  len:∀ g∈L,g.1.length=n+1
  asc:L.Pairwise fun a b=>YP a.1 b.1=true
  mem:∀ g∈L,∀ q∈g.2,T0 q=none∧∃ v,tabOf x.1.tb q=some v∧v.2=g.1
  all:∀ q v,tabOf x.1.tb q=some v→T0 q=none→∃ g∈L,q∈g.2
  one:∀ g∈L,∀ q∈g.2,∀ q'∈g.2,q.1=q'.1
theorem Grp.reach (hA:A.Ok) {n:Nat} {T0:Tab} (h0:TabOk A n T0) {i:Nat} {cs:List Nat} (hn:cs.length=n) (hi:i∈A.dr) {x:GS} {L:List (List Nat × List Pl)} {done:Pl→Nat→Prop} (h:Grp A n T0 x L done) {l:List Pl}
    (hl:∀ p∈l,(∃ v0,T0 p=some v0∧v0.2=cs)∧A.nx cs p i=true) (hcur:∀ g∈L,YP g.1 (cs++[i])=true) :
    Grp A n T0 ((Vg A i l x.1).1,x.2++[(Vg A i l x.1).2]) (L++[(cs++[i],(Vg A i l x.1).2)]) (fun a b=>done a b∨(a∈l∧b=i)):=by
  have hr:Rch A n T0 (cs++[i]) x.1 done:=⟨h.set,h.proc,fun q v hv hno=>by
    obtain ⟨g,hg,hq⟩:=h.all q v hv hno
    obtain ⟨_,u,hu,hue⟩:=h.mem g hg q hq
    rw [hv] at hu; cases hu
    rw [hue]; exact .inr (hcur g hg)⟩
  obtain ⟨b1,b2,b3,b4,b5⟩:=Zhb hA h0 hn hi l x.1 [] done hl hr (by simp)
  refine ⟨b1.set,b1.proc,by simp [h.eq,Vg],?_,?_,?_,?_,?_⟩
  · intro g hg
    rcases List.mem_append.1 hg with hg | hg
    · exact h.len g hg
    · rw [List.mem_singleton.1 hg]; simp [hn]
  · rw [List.pairwise_append]
    refine ⟨h.asc,by simp,fun a ha b hb=>?_⟩
    rw [List.mem_singleton.1 hb]; exact hcur a ha
  · intro g hg q hq
    rcases List.mem_append.1 hg with hg | hg
    · obtain ⟨m1,v,m2,m3⟩:=h.mem g hg q hq
      exact ⟨m1,v,b3 q v m2,m3⟩
    · rw [List.mem_singleton.1 hg] at hq ⊢
      exact ⟨(b2 q hq).1,(b2 q hq).2.1⟩
  · intro q v hv hno
    rcases b4 q v hv with h2 | h2
    · obtain ⟨g,hg,hq⟩:=h.all q v h2 hno
      exact ⟨g,List.mem_append_left _ hg,hq⟩
    · exact ⟨_,List.mem_append_right _ (List.mem_singleton.2 rfl),h2⟩
  · intro g hg q hq q' hq'
    rcases List.mem_append.1 hg with hg | hg
    · exact h.one g hg q hq q' hq'
    · rw [List.mem_singleton.1 hg] at hq hq'
      rw [(b2 q hq).2.2,(b2 q' hq').2.2]
theorem Grp.weak {n:Nat} {T0:Tab} {x:GS} {L:List (List Nat × List Pl)} {done done':Pl→Nat→Prop} (h:Grp A n T0 x L done) (hd:∀ q i v0 q',done' q i→T0 q=some v0→v0.2.length=n→i∈A.dr→A.nx v0.2 q i=true→A.tgt i q=some q'→done q i):Grp A n T0 x L done' :=
  ⟨h.set,h.proc.weak hd,h.eq,h.len,h.asc,h.mem,h.all,h.one⟩
theorem Zop {a b:List Nat} (hl:a.length=b.length) {i j:Nat} (h:YP a b=true):YP (a++[i]) (b++[j])=true:=by rw [Jk _ _ hl,h]; rfl
theorem Zhc {a:List Nat} {i j:Nat} (h:i<j):YP (a++[i]) (a++[j])=true:=by rw [Jk _ _ rfl]; simp [h]
theorem Zcw (hA:A.Ok) {n:Nat} (hn1:n≠0) {T0:Tab} (h0:TabOk A n T0) {cs:List Nat} (hn:cs.length=n) {l:List Pl} (hl:∀ p∈l,(∃ v0,T0 p=some v0∧v0.2=cs)) (hone:∀ q∈l,∀ q'∈l,q.1=q'.1) :
    ∀ (dr:List Nat) (x:GS) (L:List (List Nat × List Pl)) (done:Pl→Nat→Prop),(∀ i∈dr,i∈A.dr)→dr.Pairwise (· < ·)→Grp A n T0 x L done→(∀ i∈dr,∀ g∈L,YP g.1 (cs++[i])=true) →
      ∃ L':List (List Nat × List Pl),Grp A n T0 (dr.foldl (Zjf A l) x) L' (fun a b=>done a b∨(a∈l∧b∈dr))∧(∀ g∈L',g∈L∨∃ i,g.1=cs++[i])
  | [],x,L,done,_,_,h,_=>⟨L,h.weak (fun q i v0 q' hd _ _ _ _ _=>by simpa using hd),fun g hg=>.inl hg⟩
  | i::dr,x,L,done,hd,hp,h,hc=>by
    have hi:=hd i List.mem_cons_self
    have hp':=List.pairwise_cons.1 hp
    have hcs:cs≠[]:=fun e=>hn1 (by rw [← hn,e]; rfl)
    by_cases hg:goesL A i l=true
    · have hall:∀ p∈l,(∃ v0,T0 p=some v0∧v0.2=cs)∧A.nx cs p i=true:=fun p hp=>⟨hl p hp,by
        unfold Cx.nx
        rw [if_neg hcs]
        cases l with
        | nil=>simp at hp
        | cons q l =>
          simp only [goesL] at hg
          have:=hone p hp q List.mem_cons_self
          unfold Cx.goes at hg ⊢
          rw [this]; exact hg⟩
      have h1:=h.reach hA h0 hn hi hall (fun g hg=>hc i List.mem_cons_self g hg)
      obtain ⟨L',h2,h3⟩:=Zcw hA hn1 h0 hn hl hone dr _ _ _ (fun j hj=>hd j (List.mem_cons_of_mem _ hj)) hp'.2 h1 (fun j hj g hg=>by
        rcases List.mem_append.1 hg with hg | hg
        · exact hc j (List.mem_cons_of_mem _ hj) g hg
        · rw [List.mem_singleton.1 hg]; exact Zhc (hp'.1 j hj))
      refine ⟨L',?_,fun g hg=>?_⟩
      · rw [List.foldl_cons]
        have e:Zjf A l x i=((Vg A i l x.1).1,x.2++[(Vg A i l x.1).2]):=by unfold Zjf; rw [if_pos hg]
        rw [e]
        refine h2.weak fun q j v0 q' hd _ _ _ _ _=>?_
        rcases hd with hz | ⟨hz,hj⟩
        · exact .inl (.inl hz)
        · rcases List.mem_cons.1 hj with rfl | hj
          · exact .inl (.inr ⟨hz,rfl⟩)
          · exact .inr ⟨hz,hj⟩
      · rcases h3 g hg with h4 | h4
        · rcases List.mem_append.1 h4 with h4 | h4
          · exact .inl h4
          · exact .inr ⟨i,by rw [List.mem_singleton.1 h4]⟩
        · exact .inr h4
    · have e:Zjf A l x i=x:=by unfold Zjf; rw [if_neg hg]
      obtain ⟨L',h2,h3⟩:=Zcw hA hn1 h0 hn hl hone dr x L done (fun j hj=>hd j (List.mem_cons_of_mem _ hj)) hp'.2 h (fun j hj g hg=>hc j (List.mem_cons_of_mem _ hj) g hg)
      refine ⟨L',?_,h3⟩
      rw [List.foldl_cons,e]
      refine h2.weak fun q j v0 q' hd hq hl0 _ hx _=>?_
      rcases hd with hz | ⟨hz,hj⟩
      · exact .inl hz
      · rcases List.mem_cons.1 hj with rfl | hj
        · exfalso
          apply hg
          obtain ⟨u,hu,hue⟩:=hl q hz
          rw [hq] at hu; cases hu
          unfold Cx.nx at hx
          rw [if_neg (by rw [hue]; exact hcs)] at hx
          cases l with
          | nil=>simp at hz
          | cons q2 l =>
            simp only [goesL]
            have:=hone q hz q2 List.mem_cons_self
            unfold Cx.goes at hx ⊢
            rw [← this]; exact hx
        · exact .inr ⟨hz,hj⟩
theorem Zhd (hA:A.Ok) {n:Nat} (hn1:n≠0) {T0:Tab} (h0:TabOk A n T0) :
    ∀ (G:List (List Nat × List Pl)) (x:GS) (L:List (List Nat × List Pl)) (done:Pl→Nat→Prop),(∀ g∈G,g.1.length=n)→G.Pairwise (fun a b=>YP a.1 b.1=true)→(∀ g∈G,∀ p∈g.2,∃ v0,T0 p=some v0∧v0.2=g.1)→(∀ g∈G,∀ q∈g.2,∀ q'∈g.2,q.1=q'.1) →
      Grp A n T0 x L done→(∀ g∈G,∀ c∈L,∀ i,YP c.1 (g.1++[i])=true) →
      ∃ L':List (List Nat × List Pl),Grp A n T0 ((G.map Prod.snd).foldl (nextL A) x) L' (fun a b=>done a b∨((∃ g∈G,a∈g.2)∧b∈A.dr))
  | [],x,L,done,_,_,_,_,h,_=>⟨L,h.weak (fun q i v0 q' hd _ _ _ _ _=>by simpa using hd)⟩
  | g::G,x,L,done,h1,h2,h3,h4,h,h5=>by
    have h2':=List.pairwise_cons.1 h2
    obtain ⟨L1,a1,a2⟩:=Zcw hA hn1 h0 (h1 g List.mem_cons_self) (h3 g List.mem_cons_self) (h4 g List.mem_cons_self) A.dr x L done (fun _ h=>h) hA.dra h (fun i _ c hc=>h5 g List.mem_cons_self c hc i)
    obtain ⟨L2,b1⟩:=Zhd hA hn1 h0 G _ L1 _ (fun c hc=>h1 c (List.mem_cons_of_mem _ hc)) h2'.2 (fun c hc=>h3 c (List.mem_cons_of_mem _ hc)) (fun c hc=>h4 c (List.mem_cons_of_mem _ hc)) a1 (fun c hc d hd j=>by
      rcases a2 d hd with h6 | ⟨i,h6⟩
      · exact h5 c (List.mem_cons_of_mem _ hc) d h6 j
      · rw [h6]; exact Zop (by rw [h1 g List.mem_cons_self,h1 c (List.mem_cons_of_mem _ hc)]) (h2'.1 c hc))
    refine ⟨L2,b1.weak fun q i v0 q' hd _ _ _ _ _=>?_⟩
    rcases hd with hd | ⟨⟨c,hc,hq⟩,hi⟩
    · exact .inl (.inl hd)
    · rcases List.mem_cons.1 hc with rfl | hc
      · exact .inl (.inr ⟨hq,hi⟩)
      · exact .inr ⟨⟨c,hc,hq⟩,hi⟩
theorem Zft (hA:A.Ok) {T0:Tab} (h0:TabOk A 0 T0) :
    ∀ (dr:List Nat) (x:GS) (L:List (List Nat × List Pl)) (done:Pl→Nat→Prop),(∀ i∈dr,i∈A.dr)→dr.Pairwise (· < ·)→Grp A 0 T0 x L done→(∀ i∈dr,∀ c∈L,YP c.1 [i]=true) →
      ∃ L':List (List Nat × List Pl),Grp A 0 T0 (dr.foldl (Zex A) x) L' (fun a b=>done a b∨(a∈A.start b∧b∈dr))
  | [],x,L,done,_,_,h,_=>⟨L,h.weak (fun q i v0 q' hd _ _ _ _ _=>by simpa using hd)⟩
  | i::dr,x,L,done,hd,hp,h,hc=>by
    have hi:=hd i List.mem_cons_self
    have hp':=List.pairwise_cons.1 hp
    have hall:∀ p∈A.start i,(∃ v0,T0 p=some v0∧v0.2=[])∧A.nx [] p i=true:=fun p hp=>by
      refine ⟨?_,by unfold Cx.nx; simp [hp]⟩
      have:=(Cx.start_mem hp).2
      obtain ⟨v,hv⟩:=h0.all p [] p (.played this) (Nat.le_refl _)
      exact ⟨v,hv,List.length_eq_zero_iff.1 (by have:=(h0.best p v hv).2; omega)⟩
    have h1:=h.reach hA h0 (cs:=[]) rfl hi hall (fun g hg=>hc i List.mem_cons_self g hg)
    obtain ⟨L',h2⟩:=Zft hA h0 dr (Zex A x i) _ _ (fun j hj=>hd j (List.mem_cons_of_mem _ hj)) hp'.2 h1 (fun j hj g hg=>by
      rcases List.mem_append.1 hg with hg | hg
      · exact hc j (List.mem_cons_of_mem _ hj) g hg
      · rw [List.mem_singleton.1 hg]; exact Zhc (a:=[]) (hp'.1 j hj))
    refine ⟨L',?_⟩
    rw [List.foldl_cons]
    refine h2.weak fun q j v0 q' hd _ _ _ _ _=>?_
    rcases hd with hz | ⟨hz,hj⟩
    · exact .inl (.inl hz)
    · rcases List.mem_cons.1 hj with rfl | hj
      · exact .inl (.inr ⟨hz,rfl⟩)
      · exact .inr ⟨hz,hj⟩
structure Lv (A:Cx) (n:Nat) (x:GS):Prop where
  ok:TabOk A n (tabOf x.1.tb)
  set:SetOk A x.1
  grp:∃ L:List (List Nat × List Pl),x.2=L.map Prod.snd∧(∀ g∈L,g.1.length=n)∧L.Pairwise (fun a b=>YP a.1 b.1=true)∧(∀ g∈L,∀ q∈g.2,∃ v,tabOf x.1.tb q=some v∧v.2=g.1)∧(∀ q v,tabOf x.1.tb q=some v→v.2.length=n→∃ g∈L,q∈g.2)∧(∀ g∈L,∀ q∈g.2,∀ q'∈g.2,q.1=q'.1)
theorem Grp.lv (hA:A.Ok) {n:Nat} {T0:Tab} (h0:TabOk A n T0) {x:GS} {L:List (List Nat × List Pl)} {done:Pl→Nat→Prop} (h:Grp A n T0 x L done) (hd:∀ q i v0 q',T0 q=some v0→v0.2.length=n→i∈A.dr→A.nx v0.2 q i=true→A.tgt i q=some q'→done q i):Lv A (n+1) x:=by
 have hf:=h.proc.finish hA h0 hd
 refine ⟨hf,h.set,L,h.eq,h.len,h.asc,fun g hg q hq=>(h.mem g hg q hq).2,fun q v hv hl=>?_,h.one⟩
 refine h.all q v hv ?_
 cases h1:T0 q with
 | none=>rfl
 | some z =>
  have h2:=h.proc.keep q z h1
  rw [hv] at h2; cases h2
  have:=(h0.best q v h1).2
  omega
theorem Lv.filter {n:Nat} {x:GS} (h:Lv A n x):Lv A n (x.1,x.2.filter fun l=>decide (l≠[])):=by
 obtain ⟨L,g1,g2,g3,g4,g5,g6⟩:=h.grp
 refine ⟨h.ok,h.set,L.filter (fun g=>decide (g.2≠[])),?_,fun g hg=>g2 g (List.mem_filter.1 hg).1,g3.filter _,fun g hg=>g4 g (List.mem_filter.1 hg).1,fun q v hv hl=>?_,fun g hg=>g6 g (List.mem_filter.1 hg).1⟩
 ·show x.2.filter _=_
  rw [g1,List.filter_map]
  rfl
 ·obtain ⟨g,hg,hq⟩:=g5 q v hv hl
  refine ⟨g,List.mem_filter.2 ⟨hg,?_⟩,hq⟩
  simp only [ne_eq,decide_eq_true_eq]
  intro e; rw [e] at hq; simp at hq
theorem Lv.next (hA:A.Ok) {n:Nat} (hn1:n≠0) {x:GS} (h:Lv A n x):Lv A (n+1) (nextG A x):=by
 obtain ⟨L,g1,g2,g3,g4,g5,g6⟩:=h.grp
 have hin:Grp A n (tabOf x.1.tb) (x.1,[]) [] (fun _ _=>False):=⟨h.set,.init,rfl,by simp,by simp,by simp,fun q v hv hno=>(by simp only at hv; rw [hno] at hv; cases hv),by simp⟩
 obtain ⟨L',h1⟩:=Zhd hA hn1 h.ok L (x.1,[]) [] _ g2 g3 g4 g6 hin (by simp)
 rw [← g1] at h1
 exact (h1.lv hA h.ok fun q i v0 q' hq hl hi hx ht=>.inr ⟨g5 q v0 hq hl,hi⟩).filter
theorem Zfu (hA:A.Ok):∀ (l:List Pl) (st:AS),(∀ q∈l,q.2∈A.kd q.1)→l.Nodup→SetOk A st→(∀ q v,tabOf st.tb q=some v→v=(q,[])∧q.2∈A.kd q.1) →
    SetOk A (l.foldl Vu st)∧(∀ q v,tabOf (l.foldl Vu st).tb q=some v→v=(q,[])∧q.2∈A.kd q.1)∧(∀ q,(q∈l∨∃ v,tabOf st.tb q=some v)→∃ v,tabOf (l.foldl Vu st).tb q=some v)
  | [],st,_,_,h1,h2=>⟨h1,h2,fun q hq=>by simpa using hq⟩
  | q::l,st,hl,hnd,h1,h2=>by
    have hq:=hl q List.mem_cons_self
    have hlt:=kd_lt hA hq
    have hk:=hA.key _ _ hq
    have hr:=hA.rng _ hlt
    obtain ⟨a1,a2,a3⟩:=Zfu hA l (Vu st q) (fun p hp=>hl p (List.mem_cons_of_mem _ hp)) (List.nodup_cons.1 hnd).2 (h1.put hlt (by omega) rfl) (fun p v hv=>by
      simp only [Vu] at hv
      rw [Xj] at hv
      cases h3:tabOf st.tb p with
      | some u=>rw [h3] at hv; cases hv; exact h2 p _ h3
      | none =>
        rw [h3] at hv
        simp only at hv
        split at hv
        · rename_i e; subst e; cases hv; exact ⟨rfl,hq⟩
        · cases hv)
    refine ⟨a1,a2,fun p hp=>a3 p ?_⟩
    simp only [Vu]
    rcases hp with hp | ⟨v,hv⟩
    · rcases List.mem_cons.1 hp with rfl | hp
      · right
        rw [Xj]
        cases h3:tabOf st.tb p with
        | some u=>exact ⟨u,rfl⟩
        | none=>exact ⟨(p,[]),by simp⟩
      · exact .inl hp
    · right
      rw [Xj,hv]; exact ⟨v,rfl⟩
theorem playedL_mem {q:Pl}:q∈Zce A↔q.1<A.ks.length∧q.2∈A.kd q.1:=by
 unfold Zce
 simp only [List.mem_flatMap,List.mem_range,List.mem_map]
 constructor
 ·rintro ⟨d,hd,k,hk,rfl⟩; exact ⟨hd,hk⟩
 ·rintro ⟨h1,h2⟩; exact ⟨q.1,h1,q.2,h2,rfl⟩
theorem Ziy (hA:A.Ok):(Zce A).Nodup:=by
 unfold Zce
 rw [List.nodup_iff_pairwise_ne,List.pairwise_flatMap]
 refine ⟨fun d _=>?_,?_⟩
 ·rw [List.pairwise_map]
  exact (hA.asc d).imp fun h e=>by cases e; omega
 ·refine List.nodup_range.imp fun {a b} hab x hx y hy e=>?_
  obtain ⟨_,_,rfl⟩:=List.mem_map.1 hx
  obtain ⟨_,_,rfl⟩:=List.mem_map.1 hy
  cases e; exact hab rfl
theorem st0_ok (hA:A.Ok):TabOk A 0 (tabOf (st0 A).tb)∧SetOk A (st0 A):=by
 have hin:SetOk A ⟨List.replicate A.ds.length 0,[]⟩:=⟨by simp,fun q hq=>by
   have:(List.replicate A.ds.length 0).getD q.1 0=0:=by rw [List.getD_eq_getElem?_getD,List.getElem?_replicate]; split <;> rfl
   simp only [hasS,this,Nat.zero_testBit]
   simp [tabOf],fun x hx=>by rw [(List.mem_replicate.1 hx).2]; exact Nat.two_pow_pos 128,fun q v hv=>by simp [tabOf] at hv⟩
 obtain ⟨a1,a2,a3⟩:=Zfu hA (Zce A) _ (fun q hq=>(playedL_mem.1 hq).2) (Ziy hA) hin (by simp [tabOf])
 refine ⟨⟨fun q v hv=>?_,fun p cs q hp hl=>?_⟩,a1⟩
 ·obtain ⟨rfl,h2⟩:=a2 q v hv
  refine ⟨⟨.played h2,fun p' cs' hp'=>?_⟩,Nat.le_refl _⟩
  cases cs' with
  | nil=>exact .inr ⟨rfl,rfl⟩
  | cons c cs'=>exact .inl (by simp)
 ·have e:cs=[]:=List.length_eq_zero_iff.1 (by omega)
  have h2:=(hp.nil e).2
  exact a3 q (.inl (playedL_mem.2 ⟨by rw [hA.nk]; exact kd_lt hA h2,h2⟩))
theorem Zoq (hA:A.Ok):∀ n,Lv A (n+1) (lev A n)
  | 0=>by
    obtain ⟨h1,h2⟩:=st0_ok hA
    have hin:Grp A 0 (tabOf (st0 A).tb) (st0 A,[]) [] (fun _ _=>False):=⟨h2,.init,rfl,by simp,by simp,by simp,fun q v hv hno=>(by simp only at hv; rw [hno] at hv; cases hv),by simp⟩
    obtain ⟨L',h3⟩:=Zft hA h1 A.dr (st0 A,[]) [] _ (fun _ h=>h) hA.dra hin (by simp)
    refine h3.lv hA h1 fun q i v0 q' hq hl hi hx ht=>.inr ⟨?_,hi⟩
    have e:v0.2=[]:=List.length_eq_zero_iff.1 hl
    rw [e] at hx
    simpa [Cx.nx] using hx
  | n+1=>(Zoq hA n).next hA (by omega)
theorem Best.fore (hA:A.Ok) {p q':Pl} {cs:List Nat} {i:Nat} (h:Best A p (cs++[i]) q'):∃ q,Best A p cs q:=by
 obtain ⟨q,a1,a2,a3,a4⟩:=h.1.snoc rfl
 refine ⟨q,a1,fun p' cs' hp'=>?_⟩
 rcases Nat.lt_or_ge cs.length cs'.length with h1 | h1
 ·exact .inl h1
 ·have hx:=Cx.nx_less hA a3 hp' h1
  have h2:=h.2 _ _ (hp'.step a2 hx a4)
  simp only [List.length_append,List.length_cons,List.length_nil] at h2
  have hl:cs'.length=cs.length:=by omega
  refine .inr ⟨hl.symm,?_⟩
  rcases h2 with h2 | ⟨_,h2⟩
  ·omega
  ·rw [Jk _ _ hl] at h2
   simpa using h2
theorem Best.places (hA:A.Ok):∀ (n:Nat) (p q:Pl) (cs:List Nat),cs.length=n→Best A p cs q→∃ qs:List Pl,qs.length=n+1∧qs.Nodup∧∀ r∈qs,∃ cs',cs'.length≤n∧Best A p cs' r
  | 0,p,q,cs,hn,h=>⟨[q],rfl,by simp,fun r hr=>⟨cs,by omega,by rw [List.mem_singleton.1 hr]; exact h⟩⟩
  | n+1,p,q,cs,hn,h=>by
    have hne:cs≠[]:=fun e=>by simp [e] at hn
    have e:=(List.dropLast_concat_getLast hne).symm
    have h':=h
    rw [e] at h'
    obtain ⟨q2,h2⟩:=h'.fore hA
    obtain ⟨qs,b1,b2,b3⟩:=Best.places hA n p q2 _ (by simp [hn]) h2
    refine ⟨q::qs,by simp [b1],List.nodup_cons.2 ⟨fun hm=>?_,b2⟩,fun r hr=>?_⟩
    · obtain ⟨cs',c1,c2⟩:=b3 q hm
      have:=(h.uniq hA c2).2
      rw [this] at hn; omega
    · rcases List.mem_cons.1 hr with rfl | hr
      · exact ⟨cs,by omega,h⟩
      · obtain ⟨cs',c1,c2⟩:=b3 r hr; exact ⟨cs',by omega,c2⟩
theorem Zmd {l:List Nat} {m:Nat} (hn:l.Nodup) (h:∀ x∈l,x<m):l.length≤m:=by
 have h1:l.length≤(List.range m).length:=hn.length_le_of_subset fun x hx=>List.mem_range.2 (h x hx)
 simpa using h1
theorem Best.short (hA:A.Ok) {p q:Pl} {cs:List Nat} (h:Best A p cs q):cs.length<768:=by
 obtain ⟨qs,h1,h2,h3⟩:=Best.places hA _ p q cs rfl h
 have h4:(qs.map fun r=>r.1 * 128+r.2).Nodup:=by
  rw [List.nodup_iff_pairwise_ne,List.pairwise_map]
  refine (List.Pairwise.and_mem.1 (List.nodup_iff_pairwise_ne.1 h2)).imp fun {a b} hab e=>?_
  obtain ⟨ca,_,ha⟩:=h3 a hab.1
  obtain ⟨cb,_,hb⟩:=h3 b hab.2.1
  have:=ha.1.key hA
  have:=hb.1.key hA
  exact hab.2.2 (Prod.ext (by omega) (by omega))
 have h5:=Zmd (m:=768) h4 (fun x hx=>by
  obtain ⟨r,hr,rfl⟩:=List.mem_map.1 hx
  obtain ⟨cr,_,hb⟩:=h3 r hr
  have:=hb.1.key hA
  have:=hb.1.lt hA
  have:=hA.nd
  omega)
 rw [List.length_map,h1] at h5
 omega
theorem Zhe (hA:A.Ok):Chains A (tabOf (actP A).tb):=by
 refine (Zoq hA (fuelA A)).ok.chains hA fun q v hv hl=>?_
 have:=((Zoq hA (fuelA A)).ok.best q v hv).1.short hA
 unfold fuelA at hl
 omega
end
end Go.Sn
namespace Go.Sn
open Go.Gv
def blankS : ByteArray:=⟨#[32]⟩
def Zd1 : ByteArray:=⟨#[100,105,118,105,115,105,111,110]⟩
def JI : ByteArray:=⟨#[114,97,110,107]⟩
def Zbc : ByteArray:=⟨#[99,111,117,112,108,101,114]⟩
def kStop : ByteArray:=⟨#[115,116,111,112,32]⟩
def Jq (kind name:ByteArray):ByteArray:=(kind++blankS)++name
def Xm (K:List ByteArray) (kind name:ByteArray):Int:=if nameB name=false then 6 else if Zer (Jq kind name) K then 8 else 0
def Wa (K:List ByteArray) (kind name:ByteArray):List ByteArray:=if Xm K kind name=0 then K++[Jq kind name] else K
def dvE (K:List ByteArray) (d:Dv):Int:=if Xm K Zd1 d.name≠0 then Xm K Zd1 d.name else if VZ d then 7 else 0
def dvK (K:List ByteArray) (d:Dv):List ByteArray:=Wa K Zd1 d.name
def rkE (K:List ByteArray) (r:Rk):Int:=if Xm K JI r.name≠0 then Xm K JI r.name else if Jj r then 2 else if VM r then 7 else 0
def rkK (K:List ByteArray) (r:Rk):List ByteArray:=Wa K JI r.name
def cpE (nd:Nat) (K:List ByteArray) (c:Cp):Int:=if Xm K Zbc c.name≠0 then Xm K Zbc c.name else if (!Wc c.src nd || !Wc c.dst nd) then 4 else if YZ c then 2 else 0
def cpK (K:List ByteArray) (c:Cp):List ByteArray:=Wa K Zbc c.name
def W0 (i:Nat):ByteArray:=⟨(Lib.decDigits i).toArray⟩
def stE (nd:Nat) (K:List ByteArray) (x:St):Int :=
  if nameB x.name=false then 6 else if Wc x.div nd=false then 4 else if Xm K (kStop++W0 x.div.toNat) x.name≠0 then Xm K (kStop++W0 x.div.toNat) x.name else if (!feetB x.num x.den || decide (x.ps.length=0)) then 2 else if decide (12<x.ps.length) then 3 else 0
def stK (nd:Nat) (K:List ByteArray) (x:St):List ByteArray:=if nameB x.name=false∨Wc x.div nd=false then K else Wa K (kStop++W0 x.div.toNat) x.name
def Xh {α:Type} (E:List ByteArray→α→Int) (G:List ByteArray→α→List ByteArray):List ByteArray→List α→Nat→(Nat × Int) × List ByteArray
  | K,[],_=>((0,0),K)
  | K,x::l,i=>if E K x≠0 then ((i,E K x),G K x) else Xh E G (G K x) l (i+1)
theorem Zau {α:Type} {E:List ByteArray→α→Int} {G:List ByteArray→α→List ByteArray} {K:List ByteArray} {l:List α} {k:Nat} {x:α} (hx:l[k]? = some x):Xh E G K (l.drop k) k=if E K x≠0 then ((k,E K x),G K x) else Xh E G (G K x) (l.drop (k+1)) (k+1):=by
 rw [drop_at hx]; rfl
theorem Ze0 {w0 w:World} {l:List HL} (ho:Own w0 [] w l) (i:Nat) {x:HL} {b:Nat} (hi:l[i]? = some x) (hb:x.block=some b):w0.heap.size≤b :=
  (ho.place x (List.mem_of_getElem? hi) b hb).resolve_left (by simp)
theorem Zot {n a b:Nat} (ha:n≤a) (hb:n≤b):∀ c∈[a,b],n≤c:=fun c hc=>by
 simp only [List.mem_cons,List.not_mem_nil,or_false] at hc
 rcases hc with rfl | rfl
 ·exact ha
 ·exact hb
def Zav (s:Org) (d:Dv):List Pt→Nat→Nat × Int
  | [],_=>(0,0)
  | p::l,i=>if YV s.rs d p≠0 then (i,YV s.rs d p) else Zav s d l (i+1)
theorem Zk2 {s:Org} {d:Dv} {l:List Pt} {k:Nat} {x:Pt} (hx:l[k]? = some x):Zav s d (l.drop k) k=if YV s.rs d x≠0 then (k,YV s.rs d x) else Zav s d (l.drop (k+1)) (k+1):=by
 rw [drop_at hx]; rfl
theorem Zqa {s:Org} {d:Dv}:∀ (l:List Pt) (i:Nat),(Zav s d l i).1≤i+l.length
  | [],i=>by simp [Zav]
  | p::l,i=>by
    have:=Zqa (s:=s) (d:=d) l (i+1)
    simp only [Zav,List.length_cons]
    split
    · simp only; omega
    · omega
def Zbe (s:Org):List ByteArray→List St→Nat→(Nat × Nat × Int) × List ByteArray
  | K,[],_=>((0,0,0),K)
  | K,x::l,i=>if stE s.ds.length K x≠0 then ((i,0,stE s.ds.length K x),stK s.ds.length K x) else
    if (Zav s (s.ds.getD x.div.toNat default) x.ps 0).2≠0 then ((i,(Zav s (s.ds.getD x.div.toNat default) x.ps 0).1+1,(Zav s (s.ds.getD x.div.toNat default) x.ps 0).2),stK s.ds.length K x) else Zbe s (stK s.ds.length K x) l (i+1)
theorem Zgi {s:Org} {K:List ByteArray} {l:List St} {k:Nat} {x:St} (hx:l[k]? = some x):Zbe s K (l.drop k) k=if stE s.ds.length K x≠0 then ((k,0,stE s.ds.length K x),stK s.ds.length K x) else
    if (Zav s (s.ds.getD x.div.toNat default) x.ps 0).2≠0 then ((k,(Zav s (s.ds.getD x.div.toNat default) x.ps 0).1+1,(Zav s (s.ds.getD x.div.toNat default) x.ps 0).2),stK s.ds.length K x) else Zbe s (stK s.ds.length K x) (l.drop (k+1)) (k+1):=by
  rw [drop_at hx]; rfl
def Xz (s:Org):Fault × Int :=
  if WM s then (⟨0,0,0⟩,3) else
  if (Xh dvE dvK [] s.ds 0).1.2≠0 then (⟨1,(Xh dvE dvK [] s.ds 0).1.1,0⟩,(Xh dvE dvK [] s.ds 0).1.2) else
  if (Xh rkE rkK (Xh dvE dvK [] s.ds 0).2 s.rs 0).1.2≠0 then (⟨2,(Xh rkE rkK (Xh dvE dvK [] s.ds 0).2 s.rs 0).1.1,0⟩,(Xh rkE rkK (Xh dvE dvK [] s.ds 0).2 s.rs 0).1.2) else
  if (Zbe s (Xh rkE rkK (Xh dvE dvK [] s.ds 0).2 s.rs 0).2 s.ss 0).1.2.2≠0 then (⟨3,(Zbe s (Xh rkE rkK (Xh dvE dvK [] s.ds 0).2 s.rs 0).2 s.ss 0).1.1,(Zbe s (Xh rkE rkK (Xh dvE dvK [] s.ds 0).2 s.rs 0).2 s.ss 0).1.2.1⟩,(Zbe s (Xh rkE rkK (Xh dvE dvK [] s.ds 0).2 s.rs 0).2 s.ss 0).1.2.2) else
  if (Xh (cpE s.ds.length) cpK (Zbe s (Xh rkE rkK (Xh dvE dvK [] s.ds 0).2 s.rs 0).2 s.ss 0).2 s.cs 0).1.2≠0 then (⟨4,(Xh (cpE s.ds.length) cpK (Zbe s (Xh rkE rkK (Xh dvE dvK [] s.ds 0).2 s.rs 0).2 s.ss 0).2 s.cs 0).1.1,0⟩,(Xh (cpE s.ds.length) cpK (Zbe s (Xh rkE rkK (Xh dvE dvK [] s.ds 0).2 s.rs 0).2 s.ss 0).2 s.cs 0).1.2) else (⟨0,0,0⟩,0)
theorem Zk3 {α:Type} {E:List ByteArray→α→Int} {G:List ByteArray→α→List ByteArray}:∀ {l:List α} {K:List ByteArray} {i:Nat},(Xh E G K l i).1.2=0→∀ x∈l,∃ K',E K' x=0
  | [],_,_,_,x,hx=>by simp at hx
  | y::l,K,i,h,x,hx=>by
    simp only [Xh] at h
    split at h
    · rename_i hne; exact absurd h hne
    · rename_i hne
      rcases List.mem_cons.1 hx with rfl | hx
      · exact ⟨K,by omega⟩
      · exact Zk3 h x hx
theorem dvE_ok {K:List ByteArray} {d:Dv} (h:dvE K d=0):VZ d=false:=by
 unfold dvE at h
 split at h
 ·rename_i h1; exact absurd h h1
 ·cases hb:VZ d with
  | false=>rfl
  | true=>rw [hb] at h; simp at h
theorem Zmu {d:Dv} (h:VZ d=false):0≤d.lo∧d.lo≤127∧d.lo≤d.hi∧d.hi≤127∧d.hi≤d.lo+60:=by
 unfold VZ at h
 simp only [Bool.not_eq_false',Bool.and_eq_true,decide_eq_true_eq] at h
 omega
theorem rkE_ok {K:List ByteArray} {r:Rk} (h:rkE K r=0):VM r=false:=by
 unfold rkE at h
 split at h
 ·rename_i h1; exact absurd h h1
 ·split at h
  ·omega
  ·cases hb:VM r with
   | false=>rfl
   | true=>rw [hb] at h; simp at h
theorem Zmv {r:Rk} (h:VM r=false):0≤r.low∧r.low≤127∧1≤r.count∧r.count≤97∧r.low+r.count≤128:=by
 unfold VM at h
 simp only [Bool.not_eq_false',Bool.and_eq_true,decide_eq_true_eq] at h
 omega
theorem Zqb {nd:Nat} {K:List ByteArray} {x:St} (h:stE nd K x=0):0≤x.div∧x.div<nd:=by
 unfold stE at h
 split at h
 ·omega
 ·split at h
  ·omega
  ·rename_i h2
   unfold Wc at h2
   simpa using h2
theorem dvErr_ok {l:List Dv} {i:Nat} (h:Wt l i=0):VZ (l.getD i default)=false:=by
 unfold Wt at h
 split at h
 ·omega
 ·split at h
  ·omega
  ·cases hb:VZ (l.getD i default) with
   | false=>rfl
   | true=>rw [hb] at h; simp at h
theorem rkErr_ok {l:List Rk} {i:Nat} (h:X1 l i=0):VM (l.getD i default)=false:=by
 unfold X1 at h
 split at h
 ·omega
 ·split at h
  ·omega
  ·split at h
   ·omega
   ·cases hb:VM (l.getD i default) with
    | false=>rfl
    | true=>rw [hb] at h; simp at h
theorem Zri {nd:Nat} {l:List St} {i:Nat} (h:Wo nd l i=0):0≤(l.getD i default).div∧(l.getD i default).div<nd:=by
 unfold Wo at h
 simp only at h
 split at h
 ·omega
 ·split at h
  ·omega
  ·rename_i h2
   unfold Wc at h2
   simpa using h2
theorem ba_ext {a b:ByteArray} (h:a.data.toList=b.data.toList):a=b:=by
 obtain ⟨x⟩:=a
 obtain ⟨y⟩:=b
 have:x=y:=Array.toList_inj.1 h
 rw [this]
theorem Zhn (a b:ByteArray):(a++b).data.toList=a.data.toList++b.data.toList:=by
 rw [ByteArray.data_append]; simp
theorem Zho {α:Type} {z:α}:∀ {a b x y:List α},a++z::x=b++z::y→z ∉ x→z ∉ y→a=b∧x=y
  | [],[],x,y,h,_,_=>by simp at h; exact ⟨rfl,h⟩
  | [],c::b,x,y,h,hx,_=>by
    simp only [List.nil_append,List.cons_append,List.cons.injEq] at h
    exact absurd (by rw [h.2]; simp) hx
  | c::a,[],x,y,h,_,hy=>by
    simp only [List.nil_append,List.cons_append,List.cons.injEq] at h
    exact absurd (by rw [← h.2]; simp) hy
  | c::a,d::b,x,y,h,hx,hy=>by
    simp only [List.cons_append,List.cons.injEq] at h
    obtain ⟨h1,h2⟩:=Zho h.2 hx hy
    exact ⟨by rw [h.1,h1],h2⟩
theorem Zhp {s:ByteArray} (h:nameB s=true):(32:UInt8) ∉ s.data.toList:=fun hm=>by
 unfold nameB at h
 simp only [Bool.and_eq_true,List.all_eq_true,List.mem_range] at h
 obtain ⟨i,hi,he⟩:=List.getElem_of_mem hm
 have h1:=h.2 i (by simpa using hi)
 have h2:X8 s i=32:=by
  have hi':i<s.data.size:=by simpa using hi
  unfold X8
  rw [Array.getD_eq_getD_getElem?,Array.getElem?_eq_getElem hi']
  have:s.data[i]=32:=by simpa using he
  simp [this]
 unfold JU Vf Zbj at h1
 rw [h2] at h1
 simp at h1
theorem Zow {k1 k2 n1 n2:ByteArray} (h1:nameB n1=true) (h2:nameB n2=true) (h:Jq k1 n1=Jq k2 n2):k1=k2∧n1=n2:=by
 have h3:=congrArg (fun b:ByteArray=>b.data.toList) h
 simp only [Jq,Zhn] at h3
 have e:blankS.data.toList=[32]:=rfl
 rw [e,List.append_assoc,List.append_assoc] at h3
 obtain ⟨a,b⟩:=Zho (z:=(32:UInt8)) h3 (Zhp h1) (Zhp h2)
 exact ⟨ba_ext a,ba_ext b⟩
structure Kn (K:List ByteArray) (Pk:ByteArray→ByteArray→Prop):Prop where
  of:∀ key∈K,∃ kd nm,key=Jq kd nm∧nameB nm=true∧Pk kd nm
  to:∀ kd nm,Pk kd nm→Jq kd nm∈K
theorem Kn.mem {K:List ByteArray} {Pk:ByteArray→ByteArray→Prop} (h:Kn K Pk) {kd nm:ByteArray} (hn:nameB nm=true):Zer (Jq kd nm) K=true↔Pk kd nm:=by
 rw [memB_iff]
 constructor
 ·intro hm
  obtain ⟨k2,n2,e,hn2,hp⟩:=h.of _ hm
  obtain ⟨rfl,rfl⟩:=Zow hn hn2 e
  exact hp
 ·exact h.to kd nm
theorem Kn.nil : Kn [] (fun _ _=>False):=⟨fun _ h=>by simp at h,fun _ _ h=>h.elim⟩
theorem Kn.iff {K:List ByteArray} {Pk Pk':ByteArray→ByteArray→Prop} (h:Kn K Pk) (hi:∀ a b,Pk a b↔Pk' a b):Kn K Pk' :=
  ⟨fun key hk=>by obtain ⟨a,b,c,d,e⟩:=h.of key hk; exact ⟨a,b,c,d,(hi a b).1 e⟩,fun a b hp=>h.to a b ((hi a b).2 hp)⟩
theorem Kn.put {K:List ByteArray} {Pk:ByteArray→ByteArray→Prop} (h:Kn K Pk) {kd nm:ByteArray} (h0:Xm K kd nm=0):Kn (Wa K kd nm) (fun a b=>Pk a b∨(a=kd∧b=nm)):=by
 have hn:nameB nm=true:=by
  unfold Xm at h0
  split at h0
  ·omega
  ·rename_i h1; simpa using h1
 unfold Wa
 rw [if_pos h0]
 refine ⟨fun key hk=>?_,fun a b hp=>?_⟩
 ·rcases List.mem_append.1 hk with hk | hk
  ·obtain ⟨a,b,c,d,e⟩:=h.of key hk
   exact ⟨a,b,c,d,.inl e⟩
  ·exact ⟨kd,nm,List.mem_singleton.1 hk,hn,.inr ⟨rfl,rfl⟩⟩
 ·rcases hp with hp | ⟨rfl,rfl⟩
  ·exact List.mem_append_left _ (h.to a b hp)
  ·exact List.mem_append_right _ (by simp)
theorem Kn.named {K:List ByteArray} {Pk:ByteArray→ByteArray→Prop} (h:Kn K Pk) (kd nm:ByteArray):Xm K kd nm=if nameB nm=false then 6 else (open Classical in if Pk kd nm then 8 else 0):=by
 unfold Xm
 split
 ·rfl
 ·rename_i h1
  have hn:nameB nm=true:=by simpa using h1
  by_cases hp:Pk kd nm
  ·rw [if_pos hp,if_pos ((h.mem hn).2 hp)]
  ·rw [if_neg hp,if_neg (fun hm=>hp ((h.mem hn).1 hm))]
theorem Zaw {α:Type} {E:List ByteArray→α→Int} {G:List ByteArray→α→List ByteArray} {l:List α} (err:Nat→Int) (I:Nat→List ByteArray→Prop)
    (hI:∀ i K x,l[i]? = some x→I i K→E K x=err i∧(err i=0→I (i+1) (G K x))) :
    ∀ (n i:Nat) (K:List ByteArray),i+n=l.length→I i K →
      (∃ k,Yt (fun i=>Xa (err i)) n i=some (k,0,err k)∧(Xh E G K (l.drop i) i).1=(k,err k)∧err k≠0) ∨
      (Yt (fun i=>Xa (err i)) n i=none∧(Xh E G K (l.drop i) i).1=(0,0)∧I l.length (Xh E G K (l.drop i) i).2)
  | 0,i,K,hn,hi=>by
    right
    rw [List.drop_eq_nil_of_le (by omega)]
    exact ⟨rfl,rfl,by rw [← hn]; exact hi⟩
  | n+1,i,K,hn,hi=>by
    obtain ⟨x,hx⟩:=get_some (show i<l.length by omega)
    obtain ⟨h1,h2⟩:=hI i K x hx hi
    rw [Zau hx,h1]
    by_cases he:err i=0
    · have e0:Xa (err i)=none:=by unfold Xa; rw [if_pos he]
      simp only [Yt,e0]
      rw [if_neg (by omega)]
      exact Zaw err I hI n (i+1) (G K x) (by omega) (h2 he)
    · have e0:Xa (err i)=some (0,err i):=by unfold Xa; rw [if_neg he]
      simp only [Yt,e0]
      rw [if_pos he]
      exact .inl ⟨i,rfl,rfl,he⟩
theorem Zrr {names:Nat→ByteArray} {i:Nat}:twice names i=true↔∃ k,k<i∧names k=names i:=by
 unfold twice
 rw [List.any_eq_true]
 constructor
 ·rintro ⟨k,hk,he⟩; exact ⟨k,List.mem_range.1 hk,of_decide_eq_true he⟩
 ·rintro ⟨k,hk,he⟩; exact ⟨k,List.mem_range.2 hk,decide_eq_true he⟩
def Pn (Q:ByteArray→ByteArray→Prop) (kind:ByteArray) (names:Nat→ByteArray) (i:Nat):ByteArray→ByteArray→Prop:=fun a b=>Q a b∨(a=kind∧∃ j,j<i∧names j=b)
theorem Zk6 {Q:ByteArray→ByteArray→Prop} {kind:ByteArray} {names:Nat→ByteArray} {i:Nat} (a b:ByteArray):(Pn Q kind names i a b∨(a=kind∧b=names i))↔Pn Q kind names (i+1) a b:=by
 unfold Pn
 constructor
 ·rintro ((h | ⟨rfl,j,hj,rfl⟩) | ⟨rfl,rfl⟩)
  ·exact .inl h
  ·exact .inr ⟨rfl,j,by omega,rfl⟩
  ·exact .inr ⟨rfl,i,by omega,rfl⟩
 ·rintro (h | ⟨rfl,j,hj,rfl⟩)
  ·exact .inl (.inl h)
  ·rcases Nat.lt_or_eq_of_le (Nat.le_of_lt_succ hj) with h | rfl
   ·exact .inl (.inr ⟨rfl,j,h,rfl⟩)
   ·exact .inr ⟨rfl,rfl⟩
theorem Zhq {Q:ByteArray→ByteArray→Prop} {kind:ByteArray} {names:Nat→ByteArray} {i:Nat} {K:List ByteArray} (h:Kn K (Pn Q kind names i)) (hQ:∀ b,¬ Q kind b):Xm K kind (names i)=if nameB (names i)=false then 6 else if twice names i=true then 8 else 0:=by
 rw [h.named]
 by_cases h1:nameB (names i)=false
 ·simp only [if_pos h1]
 ·simp only [if_neg h1]
  have e:Pn Q kind names i kind (names i)↔twice names i=true:=by
   rw [Zrr]
   unfold Pn
   constructor
   ·rintro (h2 | ⟨_,h2⟩)
    ·exact absurd h2 (hQ _)
    ·exact h2
   ·intro h2; exact .inr ⟨rfl,h2⟩
  by_cases h2:twice names i=true
  ·rw [if_pos h2,if_pos (e.2 h2)]
  ·rw [if_neg h2,if_neg (fun h3=>h2 (e.1 h3))]
theorem dv_step {s:Org} {i:Nat} {K:List ByteArray} {x:Dv} (hx:s.ds[i]? = some x) (h:Kn K (Pn (fun _ _=>False) Zd1 (dvN s.ds) i)):dvE K x=Wt s.ds i∧(Wt s.ds i=0→Kn (dvK K x) (Pn (fun _ _=>False) Zd1 (dvN s.ds) (i+1))):=by
 have hd:=getD_some (d:=default) hx
 have hn:dvN s.ds i=x.name:=by unfold dvN; rw [hd]
 have h1:=Zhq h (fun _ h=>h)
 rw [hn] at h1
 have he:dvE K x=Wt s.ds i:=by
  unfold dvE Wt
  rw [h1,hn,hd]
  cases nameB x.name <;> cases twice (dvN s.ds) i <;> simp
 refine ⟨he,fun h0=>?_⟩
 rw [← he] at h0
 have h2:Xm K Zd1 x.name=0:=by
  unfold dvE at h0
  split at h0
  ·rename_i h3; exact absurd h0 h3
  ·rename_i h3; omega
 have:=h.put h2
 rw [← hn] at this
 unfold dvK
 rw [← hn]
 exact this.iff (fun a b=>Zk6 a b)
theorem rk_step {s:Org} {Q:ByteArray→ByteArray→Prop} (hQ:∀ b,¬ Q JI b) {i:Nat} {K:List ByteArray} {x:Rk} (hx:s.rs[i]? = some x) (h:Kn K (Pn Q JI (rkN s.rs) i)):rkE K x=X1 s.rs i∧(X1 s.rs i=0→Kn (rkK K x) (Pn Q JI (rkN s.rs) (i+1))):=by
 have hd:=getD_some (d:=default) hx
 have hn:rkN s.rs i=x.name:=by unfold rkN; rw [hd]
 have h1:=Zhq h hQ
 rw [hn] at h1
 have he:rkE K x=X1 s.rs i:=by
  unfold rkE X1
  rw [h1,hn,hd]
  cases nameB x.name <;> cases twice (rkN s.rs) i <;> simp
 refine ⟨he,fun h0=>?_⟩
 rw [← he] at h0
 have h2:Xm K JI x.name=0:=by
  unfold rkE at h0
  split at h0
  ·rename_i h3; exact absurd h0 h3
  ·rename_i h3; omega
 have:=h.put h2
 rw [← hn] at this
 unfold rkK
 rw [← hn]
 exact this.iff (fun a b=>Zk6 a b)
theorem cp_step {s:Org} {Q:ByteArray→ByteArray→Prop} (hQ:∀ b,¬ Q Zbc b) {i:Nat} {K:List ByteArray} {x:Cp} (hx:s.cs[i]? = some x) (h:Kn K (Pn Q Zbc (cpN s.cs) i)):cpE s.ds.length K x=YW s.ds.length s.cs i∧(YW s.ds.length s.cs i=0→Kn (cpK K x) (Pn Q Zbc (cpN s.cs) (i+1))):=by
 have hd:=getD_some (d:=default) hx
 have hn:cpN s.cs i=x.name:=by unfold cpN; rw [hd]
 have h1:=Zhq h hQ
 rw [hn] at h1
 have he:cpE s.ds.length K x=YW s.ds.length s.cs i:=by
  unfold cpE YW
  rw [h1,hn,hd]
  cases nameB x.name <;> cases twice (cpN s.cs) i <;> simp
 refine ⟨he,fun h0=>?_⟩
 rw [← he] at h0
 have h2:Xm K Zbc x.name=0:=by
  unfold cpE at h0
  split at h0
  ·rename_i h3; exact absurd h0 h3
  ·rename_i h3; omega
 have:=h.put h2
 rw [← hn] at this
 unfold cpK
 rw [← hn]
 exact this.iff (fun a b=>Zk6 a b)
theorem Zjm {i:Nat} (h:i<10):(W0 i).data.toList=[UInt8.ofNat (48+i)]:=by
 show (Lib.decDigits i).toArray.toList=_
 rw [Lib.decDigits_one h]
theorem Zrs {i j:Nat} (hi:i<10) (hj:j<10) (h:kStop++W0 i=kStop++W0 j):i=j:=by
 have h1:=congrArg (fun b:ByteArray=>b.data.toList) h
 simp only [Zhn,Zjm hi,Zjm hj] at h1
 have h2:=List.append_cancel_left h1
 simp only [List.cons.injEq,and_true] at h2
 have h3:=congrArg UInt8.toNat h2
 simp only [UInt8.toNat_ofNat'] at h3
 omega
theorem head_ne {a b:ByteArray} (h:a.data.toList.head?≠b.data.toList.head?):a≠b:=fun e=>h (by rw [e])
theorem Zcx (i:Nat):(kStop++W0 i).data.toList.head? = some 115:=by
 rw [Zhn]; rfl
theorem Zk7 (i:Nat):kStop++W0 i≠Zd1:=head_ne (by rw [Zcx]; decide)
theorem Zi2 (i:Nat):kStop++W0 i≠JI:=head_ne (by rw [Zcx]; decide)
theorem Zi3 (i:Nat):kStop++W0 i≠Zbc:=head_ne (by rw [Zcx]; decide)
theorem Zk8 : JI≠Zd1:=head_ne (by decide)
theorem Zk9 : Zbc≠Zd1:=head_ne (by decide)
theorem Zi4 : Zbc≠JI:=head_ne (by decide)
def Ps (Q:ByteArray→ByteArray→Prop) (l:List St) (i:Nat):ByteArray→ByteArray→Prop:=fun a b=>Q a b∨∃ j,j<i∧a=kStop++W0 (l.getD j default).div.toNat∧b=(l.getD j default).name
theorem Zm0 {l:List St} {i:Nat}:stTwice l i=true↔∃ k,k<i∧(l.getD k default).div=(l.getD i default).div∧(l.getD k default).name=(l.getD i default).name:=by
 unfold stTwice
 rw [List.any_eq_true]
 constructor
 ·rintro ⟨k,hk,he⟩
  simp only [Bool.and_eq_true,decide_eq_true_eq] at he
  exact ⟨k,List.mem_range.1 hk,he⟩
 ·rintro ⟨k,hk,he⟩
  exact ⟨k,List.mem_range.2 hk,by simp only [Bool.and_eq_true,decide_eq_true_eq]; exact he⟩
structure SInv (s:Org) (Q:ByteArray→ByteArray→Prop) (i:Nat) (K:List ByteArray):Prop where
  kn:Kn K (Ps Q s.ss i)
  dv:∀ j,j<i→0≤(s.ss.getD j default).div∧(s.ss.getD j default).div<s.ds.length
theorem st_step {s:Org} (hn6:s.ds.length≤6) {Q:ByteArray→ByteArray→Prop} (hQ:∀ i b,¬ Q (kStop++W0 i) b) {i:Nat} {K:List ByteArray} {x:St} (hx:s.ss[i]? = some x) (h:SInv s Q i K):stE s.ds.length K x=Wo s.ds.length s.ss i∧(Wo s.ds.length s.ss i=0→SInv s Q (i+1) (stK s.ds.length K x)):=by
 have hd:=getD_some (d:=default) hx
 have hk:nameB x.name=true→Wc x.div s.ds.length=true→Xm K (kStop++W0 x.div.toNat) x.name=if stTwice s.ss i=true then 8 else 0:=fun hn hi=>by
  have hi2:0≤x.div∧x.div<s.ds.length:=by unfold Wc at hi; simpa using hi
  rw [h.kn.named,if_neg (by rw [hn]; decide)]
  have e:Ps Q s.ss i (kStop++W0 x.div.toNat) x.name↔stTwice s.ss i=true:=by
   rw [Zm0,hd]
   unfold Ps
   constructor
   ·rintro (h2 | ⟨j,hj,e1,e2⟩)
    ·exact absurd h2 (hQ _ _)
    ·have hdj:=h.dv j hj
     have:=Zrs (by omega) (by omega) e1
     exact ⟨j,hj,by omega,e2.symm⟩
   ·rintro ⟨j,hj,e1,e2⟩
    exact .inr ⟨j,hj,by rw [e1],e2.symm⟩
  by_cases h2:stTwice s.ss i=true
  ·rw [if_pos h2,if_pos (e.2 h2)]
  ·rw [if_neg h2,if_neg (fun h3=>h2 (e.1 h3))]
 have he:stE s.ds.length K x=Wo s.ds.length s.ss i:=by
  unfold stE Wo
  rw [hd]
  simp only
  by_cases h1:nameB x.name=false
  ·rw [if_pos h1,if_pos h1]
  ·rw [if_neg h1,if_neg h1]
   by_cases h2:Wc x.div s.ds.length=false
   ·rw [if_pos h2,if_pos h2]
   ·rw [if_neg h2,if_neg h2,hk (by simpa using h1) (by simpa using h2)]
    cases stTwice s.ss i <;> simp
 refine ⟨he,fun h0=>?_⟩
 rw [← he] at h0
 have hidx:=Zqb h0
 have h0':=h0
 unfold stE at h0
 split at h0
 ·omega
 ·rename_i h1
  split at h0
  ·omega
  ·rename_i h2
   split at h0
   ·rename_i h3; exact absurd h0 h3
   ·rename_i h3
    have h4:=h.kn.put (show Xm K (kStop++W0 x.div.toNat) x.name=0 by omega)
    have e:stK s.ds.length K x=Wa K (kStop++W0 x.div.toNat) x.name:=by unfold stK; rw [if_neg (by rintro (h5 | h5); exact h1 h5; exact h2 h5)]
    rw [e]
    refine ⟨h4.iff fun a b=>?_,fun j hj=>?_⟩
    ·unfold Ps
     constructor
     ·rintro ((h5 | ⟨j,hj,e1,e2⟩) | ⟨e1,e2⟩)
      ·exact .inl h5
      ·exact .inr ⟨j,by omega,e1,e2⟩
      ·exact .inr ⟨i,by omega,by rw [hd]; exact e1,by rw [hd]; exact e2⟩
     ·rintro (h5 | ⟨j,hj,e1,e2⟩)
      ·exact .inl (.inl h5)
      ·rcases Nat.lt_or_eq_of_le (Nat.le_of_lt_succ hj) with h6 | rfl
       ·exact .inl (.inr ⟨j,h6,e1,e2⟩)
       ·rw [hd] at e1 e2; exact .inr ⟨e1,e2⟩
    ·rcases Nat.lt_or_eq_of_le (Nat.le_of_lt_succ hj) with h6 | rfl
     ·exact h.dv j h6
     ·rw [hd]; exact hidx
theorem runP_first {s:Org} {d:Dv} {l:List Pt}:∀ (n i:Nat),i+n=l.length →
    (∃ k,Yt (fun k=>if YV s.rs d (l.getD k default)=0 then none else some (YV s.rs d (l.getD k default))) n i=some (k,YV s.rs d (l.getD k default))∧Zav s d (l.drop i) i=(k,YV s.rs d (l.getD k default))∧YV s.rs d (l.getD k default)≠0) ∨
    (Yt (fun k=>if YV s.rs d (l.getD k default)=0 then none else some (YV s.rs d (l.getD k default))) n i=none∧(Zav s d (l.drop i) i).2=0)
  | 0,i,hn=>.inr ⟨rfl,by rw [List.drop_eq_nil_of_le (by omega)]; rfl⟩
  | n+1,i,hn=>by
    obtain ⟨x,hx⟩:=get_some (show i<l.length by omega)
    have hd:=getD_some (d:=default) hx
    rw [Zk2 hx]
    by_cases he:YV s.rs d x=0
    · have e0:(if YV s.rs d (l.getD i default)=0 then none else some (YV s.rs d (l.getD i default)))=none:=by rw [hd,if_pos he]
      simp only [Yt,e0]
      rw [if_neg (by omega)]
      exact runP_first n (i+1) (by omega)
    · have e0:(if YV s.rs d (l.getD i default)=0 then none else some (YV s.rs d (l.getD i default)))=some (YV s.rs d x):=by rw [hd,if_neg he]
      simp only [Yt,e0]
      rw [if_pos he]
      exact .inl ⟨i,by rw [hd],by rw [hd],by rw [hd]; exact he⟩
theorem Zhr {s:Org} (hn6:s.ds.length≤6) {Q:ByteArray→ByteArray→Prop} (hQ:∀ i b,¬ Q (kStop++W0 i) b) :
    ∀ (n i:Nat) (K:List ByteArray),i+n=s.ss.length→SInv s Q i K →
      (∃ k p e,Yt (stO s) n i=some (k,p,e)∧(Zbe s K (s.ss.drop i) i).1=(k,p,e)∧e≠0) ∨
      (Yt (stO s) n i=none∧(Zbe s K (s.ss.drop i) i).1=(0,0,0)∧SInv s Q s.ss.length (Zbe s K (s.ss.drop i) i).2)
  | 0,i,K,hn,hi=>by
    right
    rw [List.drop_eq_nil_of_le (by omega)]
    exact ⟨rfl,rfl,by rw [← hn]; exact hi⟩
  | n+1,i,K,hn,hi=>by
    obtain ⟨x,hx⟩:=get_some (show i<s.ss.length by omega)
    have hd:=getD_some (d:=default) hx
    obtain ⟨h1,h2⟩:=st_step hn6 hQ hx hi
    rw [Zgi hx,h1]
    by_cases he:Wo s.ds.length s.ss i=0
    · rw [if_neg (by omega)]
      rcases runP_first (s:=s) (d:=s.ds.getD x.div.toNat default) (l:=x.ps) x.ps.length 0 (by omega) with ⟨k,f1,f2,f3⟩ | ⟨f1,f2⟩
      · rw [List.drop_zero] at f2
        have e0:stO s i=some (k+1,YV s.rs (s.ds.getD x.div.toNat default) (x.ps.getD k default)):=by
          unfold stO
          rw [if_neg (by omega),hd]
          simp only
          rw [f1]
        simp only [Yt,e0]
        rw [f2,if_pos f3]
        exact .inl ⟨i,_,_,rfl,rfl,f3⟩
      · rw [List.drop_zero] at f2
        have e0:stO s i=none:=by
          unfold stO
          rw [if_neg (by omega),hd]
          simp only
          rw [f1]
        simp only [Yt,e0]
        rw [if_neg (by omega)]
        exact Zhr hn6 hQ n (i+1) _ (by omega) (h2 he)
    · have e0:stO s i=some (0,Wo s.ds.length s.ss i):=by unfold stO; rw [if_pos he]
      simp only [Yt,e0]
      rw [if_pos he]
      exact .inl ⟨i,_,_,rfl,rfl,he⟩
theorem Zrt (s:Org):Xz s=Yo s:=by
 unfold Xz Yo
 by_cases hl:WM s=true
 ·rw [if_pos hl,if_pos hl]
 ·rw [if_neg hl,if_neg hl]
  have hn6:s.ds.length≤6:=by
   unfold WM at hl
   simp at hl
   omega
  have hD:=Zaw (E:=dvE) (G:=dvK) (l:=s.ds) (Wt s.ds) (fun i K=>Kn K (Pn (fun _ _=>False) Zd1 (dvN s.ds) i)) (fun i K x hx h=>dv_step hx h) s.ds.length 0 [] (by omega) (Kn.nil.iff fun a b=>by unfold Pn; constructor; exact fun h=>.inl h; rintro (h | ⟨_,j,hj,_⟩); exact h; omega)
  rw [List.drop_zero] at hD
  rcases hD with ⟨k,d1,d2,d3⟩ | ⟨d1,d2,d3⟩
  ·rw [d1,d2,if_pos d3]
  ·rw [d1,d2,if_neg (by decide)]
   obtain ⟨KD,hKD⟩:∃ K,(Xh dvE dvK [] s.ds 0).2=K:=⟨_,rfl⟩
   rw [hKD] at d3 ⊢
   simp only
   have hR:=Zaw (E:=rkE) (G:=rkK) (l:=s.rs) (X1 s.rs) (fun i K=>Kn K (Pn (Pn (fun _ _=>False) Zd1 (dvN s.ds) s.ds.length) JI (rkN s.rs) i)) (fun i K x hx h=>rk_step (fun b h=>by rcases h with h | ⟨h,_⟩; exact h; exact Zk8 h) hx h) s.rs.length 0 KD (by omega) (d3.iff fun a b=>by constructor; exact fun h=>.inl h; rintro (h | ⟨_,j,hj,_⟩); exact h; omega)
   rw [List.drop_zero] at hR
   rcases hR with ⟨k,r1,r2,r3⟩ | ⟨r1,r2,r3⟩
   ·rw [r1,r2,if_pos r3]
   ·rw [r1,r2,if_neg (by decide)]
    obtain ⟨KR,hKR⟩:∃ K,(Xh rkE rkK KD s.rs 0).2=K:=⟨_,rfl⟩
    rw [hKR] at r3 ⊢
    simp only
    have hS:=Zhr hn6 (Q:=Pn (Pn (fun _ _=>False) Zd1 (dvN s.ds) s.ds.length) JI (rkN s.rs) s.rs.length) (fun i b h=>by rcases h with (h | ⟨h,_⟩) | ⟨h,_⟩; exact h; exact Zk7 i h; exact Zi2 i h) s.ss.length 0 KR (by omega) ⟨r3.iff fun a b=>by constructor; exact fun h=>.inl h; rintro (h | ⟨j,hj,_⟩); exact h; omega,fun j hj=>by omega⟩
    rw [List.drop_zero] at hS
    rcases hS with ⟨k,p,e,s1,s2,s3⟩ | ⟨s1,s2,s3⟩
    ·rw [s1,s2,if_pos s3]
    ·rw [s1,s2,if_neg (by decide)]
     obtain ⟨KS,hKS⟩:∃ K,(Zbe s KR s.ss 0).2=K:=⟨_,rfl⟩
     rw [hKS] at s3 ⊢
     simp only
     have hC:=Zaw (E:=cpE s.ds.length) (G:=cpK) (l:=s.cs) (YW s.ds.length s.cs) (fun i K=>Kn K (Pn (Ps (Pn (Pn (fun _ _=>False) Zd1 (dvN s.ds) s.ds.length) JI (rkN s.rs) s.rs.length) s.ss s.ss.length) Zbc (cpN s.cs) i)) (fun i K x hx h=>cp_step (fun b h=>by rcases h with ((h | ⟨h,_⟩) | ⟨h,_⟩) | ⟨j,_,h,_⟩; exact h; exact Zk9 h; exact Zi4 h; exact Zi3 _ h.symm) hx h) s.cs.length 0 KS (by omega) (s3.kn.iff fun a b=>by constructor; exact fun h=>.inl h; rintro (h | ⟨_,j,hj,_⟩); exact h; omega)
     rw [List.drop_zero] at hC
     rcases hC with ⟨k,c1,c2,c3⟩ | ⟨c1,c2,c3⟩
     ·rw [c1,c2,if_pos c3]
     ·rw [c1,c2,if_neg (by decide)]
structure KR where
  a:Option Addr
  c:Nat
  ks:List Int
  deriving Inhabited
def KR.cell (r:KR):Value:=.slice r.a r.ks.length r.c
structure Hd where
  ka:Option Addr
  kc:Nat
  ks:List KR
  sa:Option Addr
  sc:Nat
  ss:List Int
  ca:Option Addr
  cc:Nat
  cs:List Int
abbrev Hd.val (h:Hd):Value:=.agg #[.slice h.ka h.ks.length h.kc,.slice h.sa h.ss.length h.sc,.slice h.ca h.cs.length h.cc]
structure HdIn (h:Hd) (w:World) (S:List Nat):Prop where
  k:OldSl w S h.ka h.ks.length 1 (h.ks.map KR.cell)
  r:∀ x∈h.ks,OldSl w S x.a x.ks.length 1 (x.ks.map Xy)
  t:OldSl w S h.sa h.ss.length 1 (h.ss.map Xy)
  c:OldSl w S h.ca h.cs.length 1 (h.cs.map Xy)
structure HdLe (h:Hd):Prop where
  k:h.ks.length≤140737488355328
  r:∀ x∈h.ks,x.ks.length≤140737488355328
  kc:∀ x∈h.ks,x.ks.length≤x.c
  t:h.ss.length≤140737488355328
  c:h.cs.length≤140737488355328
theorem HdIn.at {h:Hd} {w0 w:World} {S:List Nat} {l:List HL} (hh:HdIn h w0 S) (ho:Own w0 S w l):HdIn h w []:=⟨hh.k.at ho,fun x hx=>(hh.r x hx).at ho,hh.t.at ho,hh.c.at ho⟩
theorem HdIn.atS {h:Hd} {w0 w:World} {S Sc:List Nat} {l:List HL} (hh:HdIn h w0 S) (ho:Own w0 S w l) (hlt:∀ b∈Sc,w0.heap.size≤b):HdIn h w Sc:=⟨hh.k.atS ho (by decide) hlt,fun x hx=>(hh.r x hx).atS ho (by decide) hlt,hh.t.atS ho (by decide) hlt,hh.c.atS ho (by decide) hlt⟩
def XA (l:List Int) (lo hi bad:Int) (i:Nat):Int:=if l.getD i 0<lo∨hi<l.getD i 0 then bad else if 0<i∧l.getD i 0≤l.getD (i - 1) 0 then 8 else 0
def WO (l:List Int) (lo hi bad:Int):Int:=match Yt (fun i=>Xa (XA l lo hi bad i)) l.length 0 with
  | some (_,_,e)=>e
  | none=>0
theorem Vv {l:List Int} {lo hi bad:Int} {k:Nat} (hk:k<l.length) (h:∀ j,j<k→XA l lo hi bad j=0) (he:XA l lo hi bad k≠0):WO l lo hi bad=XA l lo hi bad k:=by
 unfold WO
 rw [XL _ (0,XA l lo hi bad k) _ 0 k (Nat.zero_le _) (by omega) (fun j _ hj=>by show Xa _=none; unfold Xa; rw [if_pos (h j hj)]) (by show Xa _=_; unfold Xa; rw [if_neg he])]
theorem Zax {l:List Int} {lo hi bad:Int} (h:∀ j,j<l.length→XA l lo hi bad j=0):WO l lo hi bad=0:=by
 unfold WO
 rw [XC _ _ 0 (fun j _ hj=>by show Xa _=none; unfold Xa; rw [if_pos (h j (by omega))])]
theorem riseP_ok {l:List Int} {lo hi bad:Int} (hb:bad≠0) (h:WO l lo hi bad=0):∀ j,j<l.length→XA l lo hi bad j=0:=by
 unfold WO at h
 split at h
 ·rename_i i k e he
  obtain ⟨_,_,h1,_⟩:=VK he
  unfold Xa at h1
  split at h1
  ·cases h1
  ·rename_i h2
   simp only [Option.some.injEq,Prod.mk.injEq] at h1
   omega
 ·rename_i he
  intro j hj
  have:=Wb he j (Nat.zero_le _) (by omega)
  unfold Xa at this
  split at this
  ·assumption
  ·cases this
def Ze2 (s:Org) (h:Hd) (i:Nat):Int:=WO (h.ks.getD i default).ks (s.ds.getD i default).lo (s.ds.getD i default).hi 7
def JJ (s:Org) (h:Hd):Int :=
  if (Yo s).2≠0 then (Yo s).2 else
  if h.ks.length≠s.ds.length then 2 else
  match Yt (fun i=>Xa (Ze2 s h i)) s.ds.length 0 with
  | some (_,_,e)=>e
  | none=>if WO h.ss 0 ((s.ss.length:Int) - 1) 4≠0 then WO h.ss 0 ((s.ss.length:Int) - 1) 4 else WO h.cs 0 ((s.cs.length:Int) - 1) 4
structure KN where
  a:Option Addr
  c:Nat
  ks:List Nat
  deriving Inhabited
def KN.kr (r:KN):KR:=⟨r.a,r.c,r.ks.map (fun n:Nat=>(n:Int))⟩
structure HN where
  ka:Option Addr
  kc:Nat
  ks:List KN
  sa:Option Addr
  sc:Nat
  ss:List Nat
  ca:Option Addr
  cc:Nat
  cs:List Nat
def HN.hd (h:HN):Hd:=⟨h.ka,h.kc,h.ks.map KN.kr,h.sa,h.sc,h.ss.map (fun n:Nat=>(n:Int)),h.ca,h.cc,h.cs.map (fun n:Nat=>(n:Int))⟩
def KN.cell (r:KN):Value:=.slice r.a r.ks.length r.c
abbrev HN.val (h:HN):Value:=.agg #[.slice h.ka h.ks.length h.kc,.slice h.sa h.ss.length h.sc,.slice h.ca h.cs.length h.cc]
structure HNIn (h:HN) (w:World) (S:List Nat):Prop where
  k:OldSl w S h.ka h.ks.length 1 (h.ks.map KN.cell)
  r:∀ x∈h.ks,OldSl w S x.a x.ks.length 1 (x.ks.map natV)
  t:OldSl w S h.sa h.ss.length 1 (h.ss.map natV)
  c:OldSl w S h.ca h.cs.length 1 (h.cs.map natV)
theorem HNIn.at {h:HN} {w0 w:World} {S:List Nat} {l:List HL} (hh:HNIn h w0 S) (ho:Own w0 S w l):HNIn h w []:=⟨hh.k.at ho,fun x hx=>(hh.r x hx).at ho,hh.t.at ho,hh.c.at ho⟩
theorem natI (l:List Nat):(l.map fun n:Nat=>(n:Int)).map Xy=l.map natV:=by simp
theorem HNIn.of {h:HN} {w:World} {S:List Nat} (hh:HdIn h.hd w S):HNIn h w S:=by
 obtain ⟨k,r,t,c⟩:=hh
 refine ⟨?_,fun x hx=>?_,?_,?_⟩
 ·have e:(h.ks.map KN.kr).map KR.cell=h.ks.map KN.cell:=by simp [KN.kr,KR.cell,KN.cell]
  simp only [HN.hd,List.length_map,e] at k
  exact k
 ·have:=r x.kr (by simp only [HN.hd]; exact List.mem_map_of_mem hx)
  simp only [KN.kr,List.length_map,natI] at this
  exact this
 ·simp only [HN.hd,List.length_map,natI] at t; exact t
 ·simp only [HN.hd,List.length_map,natI] at c; exact c
def cxN (s:Org) (h:HN):Cx:=⟨s.ds,s.cs,h.ks.map KN.ks,h.cs⟩
structure HGood (s:Org) (h:HN):Prop where
  spec:(Yo s).2=0
  cx:(cxN s h).Ok
  ssA:h.ss.Pairwise (· < ·)
  ssN:∀ i∈h.ss,i<s.ss.length
  nr:s.rs.length≤40
  ns:s.ss.length≤80
  nc:s.cs.length≤24
  hk:∀ x∈h.ks,x.ks.length≤128
  hc:∀ x∈h.ks,x.ks.length≤x.c
theorem rise_mem {l:List Int} {lo hi bad:Int} (hb:bad≠0) (h:WO l lo hi bad=0):(∀ z∈l,lo≤z∧z≤hi)∧l.Pairwise (· < ·):=by
 have h1:=riseP_ok hb h
 constructor
 ·intro z hz
  obtain ⟨i,hi,rfl⟩:=Zfn 0 hz
  have:=h1 i hi
  unfold XA at this
  split at this
  ·omega
  ·omega
 ·have key:∀ i,i+1<l.length→l.getD i 0<l.getD (i+1) 0:=fun i hi=>by
   have:=h1 (i+1) hi
   unfold XA at this
   rw [Nat.add_sub_cancel] at this
   split at this
   ·omega
   ·split at this
    ·omega
    ·omega
  rw [List.pairwise_iff_getElem]
  intro i j hi hj hij
  have step:∀ d i,i+d+1<l.length→l.getD i 0<l.getD (i+d+1) 0:=fun d=>by
   induction d with
   | zero=>intro i hi; exact key i hi
   | succ d ih =>
    intro i hi
    have h2:=ih i (by omega)
    have h3:=key (i+d+1) (by omega)
    rw [show i+(d+1)+1=i+d+1+1 by omega]
    omega
  have h2:=step (j - i - 1) i (by omega)
  rw [show i+(j - i - 1)+1=j by omega] at h2
  simpa [List.getD_eq_getElem?_getD,hi,hj] using h2
theorem asc_len {l:List Nat} {m:Nat} (h:l.Pairwise (· < ·)) (hm:∀ x∈l,x<m):l.length≤m :=
  Zmd (h.imp fun h=>Nat.ne_of_lt h) hm
theorem Zla {s:Org} (h:(Yo s).2=0):WM s=false∧(∀ i,i<s.ds.length→Wt s.ds i=0)∧(∀ i,i<s.rs.length→X1 s.rs i=0)∧(∀ i,i<s.ss.length→stO s i=none)∧(∀ i,i<s.cs.length→YW s.ds.length s.cs i=0):=by
 have hno:∀ {E:Nat→Int} {n k:Nat} {p:Nat} {e:Int},Yt (fun i=>Xa (E i)) n 0=some (k,p,e)→e≠0:=fun he=>by
  obtain ⟨_,_,h1,_⟩:=VK he
  unfold Xa at h1
  split at h1
  ·cases h1
  ·rename_i h2
   simp only [Option.some.injEq,Prod.mk.injEq] at h1
   rw [← h1.2]; exact h2
 have hyes:∀ {E:Nat→Int} {n:Nat},Yt (fun i=>Xa (E i)) n 0=none→∀ i,i<n→E i=0:=fun he i hi=>by
  have:=Wb he i (Nat.zero_le _) (by omega)
  unfold Xa at this
  split at this
  ·assumption
  ·cases this
 unfold Yo at h
 cases hl:WM s with
 | true=>rw [hl] at h; simp at h
 | false =>
  rw [hl] at h
  simp only [Bool.false_eq_true,if_false] at h
  cases h1:Yt (fun i=>Xa (Wt s.ds i)) s.ds.length 0 with
  | some x=>obtain ⟨k,p,e⟩:=x; rw [h1] at h; exact absurd h (hno h1)
  | none =>
   rw [h1] at h
   simp only at h
   cases h2:Yt (fun i=>Xa (X1 s.rs i)) s.rs.length 0 with
   | some x=>obtain ⟨k,p,e⟩:=x; rw [h2] at h; exact absurd h (hno h2)
   | none =>
    rw [h2] at h
    simp only at h
    cases h3:Yt (stO s) s.ss.length 0 with
    | some x =>
     obtain ⟨k,p,e⟩:=x
     rw [h3] at h
     exfalso
     obtain ⟨_,_,h4,_⟩:=VK h3
     simp only at h
     subst h
     unfold stO at h4
     split at h4
     ·rename_i h5
      simp only [Option.some.injEq,Prod.mk.injEq] at h4
      exact h5 h4.2
     ·split at h4
      ·rename_i k2 e2 h5
       obtain ⟨_,_,h6,_⟩:=VK h5
       simp only [Option.some.injEq,Prod.mk.injEq] at h4
       simp only at h6
       split at h6
       ·cases h6
       ·rename_i h7
        simp only [Option.some.injEq] at h6
        omega
      ·cases h4
    | none =>
     rw [h3] at h
     simp only at h
     cases h4:Yt (fun i=>Xa (YW s.ds.length s.cs i)) s.cs.length 0 with
     | some x=>obtain ⟨k,p,e⟩:=x; rw [h4] at h; exact absurd h (hno h4)
     | none=>exact ⟨rfl,hyes h1,hyes h2,fun i hi=>Wb h3 i (Nat.zero_le _) (by omega),hyes h4⟩
end Go.Sn
namespace Go.Sn
def bitsOf (X:Nat):List Nat:=(List.range 128).filter fun i=>X.testBit i
end Go.Sn
namespace Go.Sn
open Go.Gv
def Js (l:List En) (q:Pl):Option En:=l.find? fun e=>decide (e.q=q)
theorem Zox (l:List En) (q:Pl):tabOf l q=(Js l q).map fun e=>(e.org,e.ch):=rfl
theorem enOf_q (l:List En) (q:Pl) (i:Nat) (p:Pl):(Zew l q i p).q=q∧(Zew l q i p).i=(i:Int)∧(Zew l q i p).p=p:=by
 unfold Zew
 cases tabOf l p <;> exact ⟨rfl,rfl,rfl⟩
structure GR where
  r:Option Nat
  c:Nat
  ps:List Pl
  deriving Inhabited
def GR.cell (g:GR):Value:=.slice (rowA g.r) g.ps.length g.c
theorem Zjn {A:Cx} (hA:A.Ok) {i:Nat} (hi:i∈A.dr) {x:AS × List Pl} {p:Pl} (h:SetOk A x.1):SetOk A (stepR A i x p).1:=by
 unfold stepR
 cases ht:A.tgt i p with
 | none=>exact h
 | some q =>
  simp only
  split
  ·exact h
  ·have hk:=Cx.tgt_key hA hi ht
   have:=hA.rng _ hk.2.2.1
   exact h.put hk.2.2.1 (by omega) (enOf_q _ _ _ _).1
theorem Zru {A:Cx} {i:Nat} {x:AS × List Pl} {p:Pl}:(stepR A i x p).2.length≤x.2.length+1:=by
 unfold stepR
 cases A.tgt i p with
 | none=>simp
 | some q=>simp only; split <;> simp
section
variable {A:Cx}
structure GOk (l:List Pl):Prop where
  len:l.length≤128
  key:∀ p∈l,p.2<128
theorem Zm1 (hA:A.Ok) {i:Nat} (hi:i∈A.dr):∀ (l:List Pl) (x:AS × List Pl),SetOk A x.1→(∀ p∈x.2,p.2<128)→SetOk A (l.foldl (stepR A i) x).1∧(l.foldl (stepR A i) x).2.length≤x.2.length+l.length∧∀ p∈(l.foldl (stepR A i) x).2,p.2<128
  | [],x,h,h2=>⟨h,by simp,h2⟩
  | p::l,x,h,h2=>by
    have h3:=Zjn hA hi (p:=p) h
    have h4:=Zru (A:=A) (i:=i) (x:=x) (p:=p)
    obtain ⟨a,b,c⟩:=Zm1 hA hi l (stepR A i x p) h3 (fun q hq=>by
      unfold stepR at hq
      cases ht:A.tgt i p with
      | none=>rw [ht] at hq; exact h2 q hq
      | some q' =>
        rw [ht] at hq
        simp only at hq
        split at hq
        · exact h2 q hq
        · rcases List.mem_append.1 hq with hq | hq
          · exact h2 q hq
          · rw [List.mem_singleton.1 hq]
            have hk:=Cx.tgt_key hA hi ht
            have:=hA.rng _ hk.2.2.1
            omega)
    refine ⟨a,?_,c⟩
    simp only [List.foldl_cons,List.length_cons]
    omega
theorem Zoy (hA:A.Ok) {i:Nat} (hi:i∈A.dr) {l:List Pl} {st:AS} (h:SetOk A st):SetOk A (Vg A i l st).1:=(Zm1 hA hi l (st,[]) h (by simp)).1
end
structure CE where
  there:Bool
  pl:Nat
  src:Nat
  r:Option Nat
  c:Nat
  ch:List Nat
  deriving Inhabited
abbrev CE.val (e:CE):Value:=.agg #[.bool e.there,natV e.pl,natV e.src,.slice (rowA e.r) e.ch.length e.c]
def ce0 : CE:=⟨false,0,0,none,0,[]⟩
def Zcz (tb:List (List CE)) (q:Pl):CE:=(tb.getD q.1 []).getD q.2 ce0
def tabR (tb:List (List CE)):Tab:=fun q=>if (Zcz tb q).there then some (((Zcz tb q).src,(Zcz tb q).pl),(Zcz tb q).ch) else none
def setR (tb:List (List CE)) (q:Pl) (x:CE):List (List CE):=tb.set q.1 ((tb.getD q.1 []).set q.2 x)
structure TbLen (nd:Nat) (tb:List (List CE)):Prop where
  len:tb.length=nd
  row:∀ r∈tb,r.length=128
theorem TbLen.getD {nd:Nat} {tb:List (List CE)} (h:TbLen nd tb) {d:Nat} (hd:d<nd):(tb.getD d []).length=128:=by
 obtain ⟨r,hr⟩:=get_some (show d<tb.length by rw [h.len]; exact hd)
 rw [getD_some hr]; exact h.row r (List.mem_of_getElem? hr)
theorem entR_set {nd:Nat} {tb:List (List CE)} (h:TbLen nd tb) {q q':Pl} (h1:q.1<nd) (h2:q.2<128) (x:CE):Zcz (setR tb q x) q'=if q'=q then x else Zcz tb q':=by
 unfold Zcz setR
 have hl:=h.getD h1
 rw [Gv.getD_set _ _ _ _ (by rw [h.len]; exact h1)]
 by_cases e1:q.1=q'.1
 ·rw [if_pos e1,Gv.getD_set _ _ _ _ (by rw [hl]; exact h2)]
  by_cases e2:q.2=q'.2
  ·rw [if_pos e2,if_pos (Prod.ext e1.symm e2.symm)]
  ·rw [if_neg e2,if_neg (fun h=>e2 (by rw [h])),e1]
 ·rw [if_neg e1,if_neg (fun h=>e1 (by rw [h]))]
theorem TbLen.set {nd:Nat} {tb:List (List CE)} (h:TbLen nd tb) {q:Pl} (h1:q.1<nd) (x:CE):TbLen nd (setR tb q x):=by
 refine ⟨by unfold setR; simp [h.len],fun r hr=>?_⟩
 unfold setR at hr
 rcases List.mem_or_eq_of_mem_set hr with hr | hr
 ·exact h.row r hr
 ·rw [hr,List.length_set]; exact h.getD h1
def addR (lo hi:Int) (tb:List (List CE)) (d:Nat) (key:Int) (x:CE):List (List CE) :=
  if key<lo∨hi<key then tb
  else if (Zcz tb (d,key.toNat)).there=false∨((Zcz tb (d,key.toNat)).ch.length=x.ch.length∧YP x.ch (Zcz tb (d,key.toNat)).ch=true) then setR tb (d,key.toNat) x else tb
theorem addR_tab {nd:Nat} {lo hi:Int} {tb:List (List CE)} (h:TbLen nd tb) {d:Nat} (hd:d<nd) (h0:0≤lo) (h1:hi≤127) {key:Int} {x:CE} (hx:x.there=true) (hk:lo≤key∧key≤hi):tabR (addR lo hi tb d key x)=Zdr (tabR tb) (d,key.toNat) ((x.src,x.pl),x.ch):=by
 funext q
 unfold addR
 rw [if_neg (by omega)]
 unfold Zdr
 by_cases hc:(Zcz tb (d,key.toNat)).there=false∨((Zcz tb (d,key.toNat)).ch.length=x.ch.length∧YP x.ch (Zcz tb (d,key.toNat)).ch=true)
 ·rw [if_pos hc]
  unfold tabR
  rw [entR_set h hd (by simp only; omega)]
  by_cases e:q=(d,key.toNat)
  ·subst e
   simp only [if_true,hx]
   rcases hc with hc | hc
   ·rw [hc]; rfl
   ·cases hth:(Zcz tb (d,key.toNat)).there with
    | false=>rfl
    | true=>simp only [if_true]; rw [if_pos hc]
  ·rw [if_neg e,if_neg e]
 ·rw [if_neg hc]
  unfold tabR
  by_cases e:q=(d,key.toNat)
  ·subst e
   simp only [if_true]
   cases hth:(Zcz tb (d,key.toNat)).there with
   | false=>exact absurd (.inl hth) hc
   | true =>
    simp only [if_true]
    rw [if_neg (fun h2=>hc (.inr h2))]
  ·rw [if_neg e]
theorem addR_out {lo hi:Int} {tb:List (List CE)} {d:Nat} {key:Int} {x:CE} (hk:¬ (lo≤key∧key≤hi)):addR lo hi tb d key x=tb:=by
 unfold addR; rw [if_pos (by omega)]
section
variable {A:Cx}
theorem Proc.addR (hA:A.Ok) {n:Nat} {T0:Tab} {tb:List (List CE)} {done:Pl→Nat→Prop} (h:Proc A n T0 (tabR tb) done) (h0:TabOk A n T0) (htb:TbLen A.ds.length tb) {q:Pl} {i:Nat} {v0:Pl × List Nat} (hq:T0 q=some v0) (hn:v0.2.length=n) (hi:i∈A.dr) (hx:A.nx v0.2 q i=true) {c:Cp} (hc:A.cp i=c) {d:Dv} (hd:A.dv c.dst.toNat=d) {key:Int} (hk:key=(q.2:Int)+c.shift) (r:Option Nat) (cc:Nat) :
    Proc A n T0 (tabR (Sn.addR d.lo d.hi tb c.dst.toNat key ⟨true,v0.1.2,v0.1.1,r,cc,v0.2++[i]⟩)) (fun a b=>done a b∨(a=q∧b=i)):=by
  subst hc; subst hd; subst hk
  have hdst:=hA.dst i (hA.drn i hi)
  have hrg:=hA.rng (A.cp i).dst.toNat (by omega)
  by_cases hin:(A.dv (A.cp i).dst.toNat).lo≤(q.2:Int)+(A.cp i).shift∧(q.2:Int)+(A.cp i).shift≤(A.dv (A.cp i).dst.toNat).hi
  · rw [addR_tab htb (by omega) hrg.1 hrg.2.2 rfl hin]
    exact h.add h0 hq hn hi hx (by unfold Cx.tgt; rw [if_pos hin])
  · rw [addR_out hin]
    exact h.skip (by unfold Cx.tgt; rw [if_neg hin])
theorem Proc.old {n:Nat} {T0 T:Tab} {done:Pl→Nat→Prop} (h:Proc A n T0 T done) {q:Pl} {v:Pl × List Nat} (hv:T q=some v) (hn:v.2.length=n):T0 q=some v:=by
 rcases h.new q v hv with h1 | ⟨_,q1,i,v0,_,h2,_,_,_,rfl⟩
 ·exact h1
 ·simp at hn; omega
theorem TabOk.short (hA:A.Ok) {n:Nat} {T:Tab} (h:TabOk A n T) {q:Pl} {v:Pl × List Nat} (hv:T q=some v):v.2.length<768:=(h.best q v hv).1.short hA
theorem Proc.same {n:Nat} {T0 T:Tab} {done:Pl→Nat→Prop} (h:Proc A n T0 T done) (hn:∀ q v,T0 q=some v→v.2.length≠n):T=T0:=by
 funext q
 cases hT:T q with
 | none =>
  cases h0:T0 q with
  | none=>rfl
  | some v=>rw [h.keep q v h0] at hT; cases hT
 | some v =>
  rcases h.new q v hT with h1 | ⟨_,q1,i,v0,h1,h2,_⟩
  ·exact h1.symm
  ·exact absurd h2 (hn q1 v0 h1)
theorem Proc.round (hA:A.Ok) {n:Nat} {T0 T:Tab} {done:Pl→Nat→Prop} (h0:TabOk A n T0) (h:Proc A n T0 T done) (hd:∀ q v0,T0 q=some v0→∀ i,done q i) (more:Bool) (hm:more=false→∀ q v,T0 q=some v→v.2.length≠n):(more=true→TabOk A (n+1) T)∧(more=false→Chains A T):=by
 refine ⟨fun _=>h.finish hA h0 fun q i v0 q' hq _ _ _ _=>hd q v0 hq i,fun hf=>?_⟩
 rw [h.same (hm hf)]
 exact h0.chains hA (hm hf)
end
end Go.Sn
namespace Go.Sn
open Go.Gv
open Go.RowKit
structure KG where
  r:Option Nat
  c:Nat
  ks:List Nat
def KG.cell (g:KG):Value:=.slice (rowA g.r) g.ks.length g.c
def KG.hl (t:TypeId) (g:KG):HL:=.row t 1 g.r g.ks.length g.c (g.ks.map natV)
def rowK (T:Tab) (d n:Nat):List Nat:=(List.range n).filter fun k=>(T (d,k)).isSome
def keysT (T:Tab) (nd:Nat):List (List Nat):=(List.range nd).map fun d=>rowK T d 128
def keysP (s:Org) (h:HN):List (List Nat):=keysT (tabOf (actP (cxN s h)).tb) s.ds.length
theorem rowK_len (T:Tab) (d n:Nat):(rowK T d n).length≤n:=by
 have:=List.length_filter_le (fun k=>(T (d,k)).isSome) (List.range n)
 simpa [rowK] using this
def pipesU (sets:List Nat) (k:Nat):List Pl:=(List.range k).flatMap fun d=>(bitsOf (sets.getD d 0)).map fun n=>(d,n)
def hitB (p:Pt) (n:Nat):Bool:=decide (p.lo≤(n:Int)) && decide ((n:Int)≤p.hi)
structure PtsOk (nr:Nat) (ps:List Pt):Prop where
  rank:∀ p∈ps,0≤p.rank∧p.rank<nr
  note:∀ p∈ps,∀ n:Nat,hitB p n=true→0≤(n:Int)+p.shift∧(n:Int)+p.shift≤127
def stA (s:Org) (i:Nat):St:=s.ss.getD i default
theorem range_at {n k:Nat} (h:k<n):(List.range n)[k]? = some k:=by rw [List.getElem?_range h]
theorem stop_ok {s:Org} {h:HN} (hg:HGood s h) {i:Nat} {x:St} (hx:s.ss[i]? = some x):0≤x.div∧x.div<s.ds.length∧PtsOk s.rs.length x.ps∧x.ps.length≤12∧(∀ p∈x.ps,0≤p.lo∧p.hi≤127∧-96≤p.shift∧p.shift≤96):=by
 have hi:i<s.ss.length:=(List.getElem?_eq_some_iff.1 hx).1
 obtain ⟨_,hd,hr,ht,_⟩:=Zla hg.spec
 have h1:=ht i hi
 unfold stO at h1
 split at h1
 ·cases h1
 rename_i h2
 have h3:Wo s.ds.length s.ss i=0:=by omega
 have h4:∀ k,k<x.ps.length→YV s.rs (s.ds.getD x.div.toNat default) (x.ps.getD k default)=0:=by
  rw [getD_some hx] at h1
  split at h1
  ·cases h1
  ·rename_i he
   intro k hk
   have:=Wb he k (Nat.zero_le _) (by omega)
   simp only at this
   split at this
   ·assumption
   ·cases this
 unfold Wo at h3
 rw [getD_some hx] at h3
 simp only at h3
 split at h3
 ·cases h3
 split at h3
 ·cases h3
 rename_i h5
 split at h3
 ·cases h3
 split at h3
 ·cases h3
 split at h3
 ·cases h3
 rename_i h6
 have h69:¬ 12<x.ps.length:=by simpa using h6
 have h7:Wc x.div s.ds.length=true:=by simpa using h5
 unfold Wc at h7
 simp only [Bool.and_eq_true,decide_eq_true_eq] at h7
 have hlo:=hg.cx.rng x.div.toNat (show x.div.toNat<s.ds.length by omega)
 have hdv:(cxN s h).dv x.div.toNat=s.ds.getD x.div.toNat default:=rfl
 rw [hdv] at hlo
 have h8:∀ p∈x.ps,(0≤p.rank∧p.rank<s.rs.length)∧((s.ds.getD x.div.toNat default).lo≤p.lo∧p.lo≤p.hi∧p.hi≤(s.ds.getD x.div.toNat default).hi∧-96≤p.shift∧p.shift≤96)∧(s.rs.getD p.rank.toNat default).low≤p.lo+p.shift∧p.hi+p.shift<(s.rs.getD p.rank.toNat default).low+(s.rs.getD p.rank.toNat default).count:=fun p hp=>by
  obtain ⟨k,hk⟩:=List.getElem?_of_mem hp
  have h9:=h4 k (List.getElem?_eq_some_iff.1 hk).1
  rw [getD_some hk] at h9
  unfold YV at h9
  split at h9
  ·cases h9
  rename_i g1
  split at h9
  ·cases h9
  rename_i g2
  split at h9
  ·cases h9
  rename_i g3
  simp only [Bool.not_eq_false] at g1 g2 g3
  unfold Wc at g1; unfold Wp at g2; unfold Zha at g3
  simp only [Bool.and_eq_true,decide_eq_true_eq] at g1 g2 g3
  exact ⟨g1,⟨g2.1.1.1.1,g2.1.1.1.2,g2.1.1.2,g2.1.2,g2.2⟩,g3⟩
 refine ⟨h7.1,h7.2,⟨fun p hp=>(h8 p hp).1,fun p hp n hn=>?_⟩,by omega,fun p hp=>?_⟩
 ·obtain ⟨g1,g2,g3,g4⟩:=h8 p hp
  unfold hitB at hn
  simp only [Bool.and_eq_true,decide_eq_true_eq] at hn
  have hrk:=hr p.rank.toNat (by omega)
  unfold X1 at hrk
  split at hrk
  ·cases hrk
  split at hrk
  ·cases hrk
  split at hrk
  ·cases hrk
  split at hrk
  ·cases hrk
  rename_i g5
  unfold VM at g5
  simp only [Bool.not_eq_true',Bool.not_eq_true,Bool.not_eq_false,Bool.and_eq_true,decide_eq_true_eq] at g5
  omega
 ·obtain ⟨g1,g2,g3,g4⟩:=h8 p hp
  omega
section
variable {b:Pl→Nat} {x:St} {ks:List Nat} {i j nr:Nat} {q:Pl}
end
theorem keysP_len (s:Org) (h:HN):∀ l∈keysP s h,l.length≤128:=fun l hl=>by
 unfold keysP keysT at hl
 obtain ⟨d,_,rfl⟩:=List.mem_map.1 hl
 exact rowK_len _ _ _
structure SetU (nr:Nat) (f:Pl→Nat) (r k:Nat) (sets:List Nat):Prop where
  len:sets.length=nr
  lt:∀ x∈sets,x<2 ^ 128
  has:∀ q:Pl,q.1<nr→q.2<128→(hasS sets q=true↔(q.1<r∨(q.1=r∧q.2<k))∧0<f q)
theorem SetU.init (nr:Nat) (f:Pl→Nat):SetU nr f 0 0 (List.replicate nr 0):=by
 refine ⟨by simp,fun x hx=>?_,fun q hq h2=>?_⟩
 ·rw [List.eq_of_mem_replicate hx]; decide
 ·unfold hasS
  rw [List.getD_eq_getElem?_getD,List.getElem?_replicate_of_lt hq]
  simp only [Option.getD_some,Nat.zero_testBit]
  constructor
  ·intro h; cases h
  ·rintro ⟨h,_⟩; omega
section
variable {nr r k:Nat} {f:Pl→Nat} {sets:List Nat}
theorem SetU.no (h:SetU nr f r k sets) (hf:f (r,k)=0):SetU nr f r (k+1) sets:=by
 refine ⟨h.len,h.lt,fun q hq h2=>?_⟩
 rw [h.has q hq h2]
 constructor
 ·rintro ⟨h3,h4⟩; exact ⟨by omega,h4⟩
 ·rintro ⟨h3,h4⟩
  refine ⟨?_,h4⟩
  by_cases e:q=(r,k)
  ·subst e; omega
  ·rcases h3 with h3 | ⟨h3,h5⟩
   ·exact .inl h3
   ·refine .inr ⟨h3,?_⟩
    have:q.2≠k:=fun e2=>e (Prod.ext h3 e2)
    omega
theorem SetU.yes (h:SetU nr f r k sets) (hr:r<nr) (hk:k<128) (hf:0<f (r,k)):SetU nr f r (k+1) (JV sets (r,k)):=by
 refine ⟨by unfold JV; rw [List.length_set]; exact h.len,fun x hx=>?_,fun q hq h2=>?_⟩
 ·unfold JV at hx
  rcases List.mem_or_eq_of_mem_set hx with hx | rfl
  ·exact h.lt x hx
  ·exact Zmb (getD_lt h.lt r) hk
 ·rw [Zmc (by rw [h.len]; exact hr),Bool.or_eq_true,h.has q hq h2,decide_eq_true_eq]
  constructor
  ·rintro (⟨h3,h4⟩ | rfl)
   ·exact ⟨by omega,h4⟩
   ·exact ⟨.inr ⟨rfl,by simp only; omega⟩,hf⟩
  ·rintro ⟨h3,h4⟩
   by_cases e:q=(r,k)
   ·exact .inr e
   ·refine .inl ⟨?_,h4⟩
    rcases h3 with h3 | ⟨h3,h5⟩
    ·exact .inl h3
    ·refine .inr ⟨h3,?_⟩
     have:q.2≠k:=fun e2=>e (Prod.ext h3 e2)
     omega
theorem SetU.next (h:SetU nr f r 128 sets):SetU nr f (r+1) 0 sets:=by
 refine ⟨h.len,h.lt,fun q hq h2=>?_⟩
 rw [h.has q hq h2]
 constructor
 ·rintro ⟨h3,h4⟩; exact ⟨by omega,h4⟩
 ·rintro ⟨h3,h4⟩; exact ⟨by omega,h4⟩
def pipesP (nr:Nat) (f:Pl→Nat):List Pl:=(List.range nr).flatMap fun r=>((List.range 128).filter fun p=>decide (0<f (r,p))).map fun p=>(r,p)
theorem Zhs {α β:Type} {g g':α→List β}:∀ {l:List α},(∀ x∈l,g x=g' x)→l.flatMap g=l.flatMap g'
  | [],_=>rfl
  | a::l,h=>by rw [List.flatMap_cons,List.flatMap_cons,h a List.mem_cons_self,Zhs fun x hx=>h x (List.mem_cons_of_mem _ hx)]
theorem SetU.pipes (h:SetU nr f nr 0 sets):pipesU sets nr=pipesP nr f:=by
 unfold pipesU pipesP
 apply Zhs
 intro r hr
 have hr:=List.mem_range.1 hr
 congr 1
 unfold bitsOf
 apply List.filter_congr
 intro p hp
 have hp:=List.mem_range.1 hp
 have h1:=h.has (r,p) hr hp
 unfold hasS at h1
 rw [Bool.eq_iff_iff,decide_eq_true_eq,h1]
 constructor
 ·exact fun h=>h.2
 ·exact fun h=>⟨.inl hr,h⟩
end
def plZ (p:Pt) (n:Nat) (r0 p0:Int):Bool:=decide (p.rank=r0) && decide (p.lo≤(n:Int)) && decide ((n:Int)≤p.hi) && decide ((n:Int)+p.shift=p0)
def playsZ (x:St) (n:Nat) (r0 p0:Int):Bool:=x.ps.any fun p=>plZ p n r0 p0
inductive Lk : List En→Prop
  | nil:Lk []
  | put (tb:List En) (q:Pl):Lk tb→tabOf tb q=none→Lk (tb++[⟨q,-1,(0,0),q,[]⟩])
  | step (tb:List En) (q p:Pl) (i:Nat) (v:Pl × List Nat):Lk tb→tabOf tb q=none→tabOf tb p=some v→Lk (tb++[⟨q,i,p,v.1,v.2++[i]⟩])
def InT (tb:List En) (l:List Pl):Prop:=∀ p∈l,∃ v,tabOf tb p=some v
theorem Vm {tb:List En} {e:En} {q:Pl} {v:Pl × List Nat} (h:tabOf tb q=some v):tabOf (tb++[e]) q=some v:=by rw [Xj,h]
theorem InT.mono {tb:List En} {e:En} {l:List Pl} (h:InT tb l):InT (tb++[e]) l:=fun p hp=>by
 obtain ⟨v,hv⟩:=h p hp
 exact ⟨v,Vm hv⟩
theorem Zjo (tb:List En) (e:En) (q:Pl):Js (tb++[e]) q=match Js tb q with | some x=>some x | none=>if e.q=q then some e else none:=by
 unfold Js
 rw [List.find?_append]
 cases h:tb.find? (fun e=>decide (e.q=q)) with
 | some v=>simp
 | none =>
  simp only [Option.none_or,List.find?_cons,List.find?_nil]
  by_cases h2:e.q=q <;> simp [h2]
theorem Lk.get {tb:List En} (h:Lk tb):∀ {q:Pl} {e:En},Js tb q=some e→(e.i = -1∧tabOf tb q=some (q,[]))∨∃ (i:Nat) (v:Pl × List Nat),e.i=i∧tabOf tb e.p=some v∧tabOf tb q=some (v.1,v.2++[i]):=by
 induction h with
 | nil=>intro q e h; cases h
 | put tb q0 h0 hno ih =>
  intro q e he
  rw [Zjo] at he
  cases hf:Js tb q with
  | some x =>
   rw [hf] at he
   simp only [Option.some.injEq] at he
   subst he
   rcases ih hf with ⟨h1,h2⟩ | ⟨i,v,h1,h2,h3⟩
   ·exact .inl ⟨h1,Vm h2⟩
   ·exact .inr ⟨i,v,h1,Vm h2,Vm h3⟩
  | none =>
   rw [hf] at he
   simp only at he
   split at he
   ·rename_i hq
    simp only [Option.some.injEq] at he
    subst he
    subst hq
    refine .inl ⟨rfl,?_⟩
    rw [Xj,hno]; simp
   ·cases he
 | step tb q0 p i v h0 hno hp ih =>
  intro q e he
  rw [Zjo] at he
  cases hf:Js tb q with
  | some x =>
   rw [hf] at he
   simp only [Option.some.injEq] at he
   subst he
   rcases ih hf with ⟨h1,h2⟩ | ⟨i',v',h1,h2,h3⟩
   ·exact .inl ⟨h1,Vm h2⟩
   ·exact .inr ⟨i',v',h1,Vm h2,Vm h3⟩
  | none =>
   rw [hf] at he
   simp only at he
   split at he
   ·rename_i hq
    simp only [Option.some.injEq] at he
    subst he
    subst hq
    refine .inr ⟨i,v,rfl,Vm hp,?_⟩
    rw [Xj,hno]; simp
   ·cases he
section
variable {A:Cx}
structure LG (A:Cx) (x:GS):Prop where
  lk:Lk x.1.tb
  set:SetOk A x.1
  mem:∀ l∈x.2,InT x.1.tb l
theorem stepR_lk (hA:A.Ok) {i:Nat} (hi:i∈A.dr) {x:AS × List Pl} {p:Pl} (hs:SetOk A x.1) (hl:Lk x.1.tb) (hm:InT x.1.tb x.2) (hp:∃ v,tabOf x.1.tb p=some v):Lk (stepR A i x p).1.tb∧InT (stepR A i x p).1.tb (stepR A i x p).2∧(∀ q v,tabOf x.1.tb q=some v→tabOf (stepR A i x p).1.tb q=some v):=by
 unfold stepR
 cases ht:A.tgt i p with
 | none=>exact ⟨hl,hm,fun _ _ h=>h⟩
 | some q =>
  simp only
  split
  ·exact ⟨hl,hm,fun _ _ h=>h⟩
  ·rename_i hno
   have hk:=Cx.tgt_key hA hi ht
   have hn:tabOf x.1.tb q=none:=by
    cases h9:tabOf x.1.tb q with
    | none=>rfl
    | some v=>exact absurd ((hs.has q hk.2.2.1).2 ⟨v,h9⟩) hno
   obtain ⟨v,hv⟩:=hp
   have he:Zew x.1.tb q i p=⟨q,i,p,v.1,v.2++[i]⟩:=by unfold Zew; rw [hv]
   rw [he]
   refine ⟨.step _ _ _ _ _ hl hn hv,fun p' hp'=>?_,fun _ _ h=>Vm h⟩
   rcases List.mem_append.1 hp' with h | h
   ·exact hm.mono p' h
   ·rw [List.mem_singleton.1 h]
    exact ⟨(v.1,v.2++[i]),by rw [Xj,hn]; simp⟩
theorem Zm2 (hA:A.Ok) {i:Nat} (hi:i∈A.dr):∀ (l:List Pl) (x:AS × List Pl),SetOk A x.1→Lk x.1.tb→InT x.1.tb x.2→InT x.1.tb l→Lk (l.foldl (stepR A i) x).1.tb∧InT (l.foldl (stepR A i) x).1.tb (l.foldl (stepR A i) x).2∧(∀ q v,tabOf x.1.tb q=some v→tabOf (l.foldl (stepR A i) x).1.tb q=some v)
  | [],x,_,h2,h3,_=>⟨h2,h3,fun _ _ h=>h⟩
  | p::l,x,h1,h2,h3,h4=>by
    obtain ⟨a,b,c⟩:=stepR_lk hA hi h1 h2 h3 (h4 p List.mem_cons_self)
    obtain ⟨a',b',c'⟩:=Zm2 hA hi l (stepR A i x p) (Zjn hA hi h1) a b (fun q hq=>by
      obtain ⟨v,hv⟩:=h4 q (List.mem_cons_of_mem _ hq)
      exact ⟨v,c q v hv⟩)
    exact ⟨a',b',fun q v h=>c' q v (c q v h)⟩
theorem LG.reach (hA:A.Ok) {i:Nat} (hi:i∈A.dr) {x:GS} (h:LG A x) {l:List Pl} (hl:InT x.1.tb l):LG A ((Vg A i l x.1).1,x.2++[(Vg A i l x.1).2])∧∀ q v,tabOf x.1.tb q=some v→tabOf (Vg A i l x.1).1.tb q=some v:=by
 obtain ⟨a,b,c⟩:=Zm2 hA hi l (x.1,[]) h.set h.lk (by intro p hp; cases hp) hl
 refine ⟨⟨a,Zoy hA hi h.set,fun l' hl' p hp=>?_⟩,c⟩
 rcases List.mem_append.1 hl' with h' | h'
 ·obtain ⟨v,hv⟩:=h.mem l' h' p hp
  exact ⟨v,c p v hv⟩
 ·rw [List.mem_singleton.1 h'] at hp
  exact b p hp
end
structure Turned (xs ys:List Nat) (i:Nat):Prop where
  len:ys.length=xs.length
  at_:∀ k,k<xs.length→ys[k]? = if k<i∨xs.length - i≤k then xs[xs.length - 1 - k]? else xs[k]?
theorem Turned.init (xs:List Nat):Turned xs xs 0:=⟨rfl,fun k hk=>by rw [if_neg (by omega)]⟩
theorem Turned.step {xs ys:List Nat} {i:Nat} (h:Turned xs ys i) {u v:Nat} (hi:2 * i+1<xs.length) (hu:ys[xs.length - 1 - i]? = some u) (hv:ys[i]? = some v):Turned xs ((ys.set i u).set (xs.length - 1 - i) v) (i+1):=by
 refine ⟨by rw [List.length_set,List.length_set,h.len],fun k hk=>?_⟩
 have h1:=h.at_ i (by omega)
 rw [if_neg (by omega),hv] at h1
 have h2:=h.at_ (xs.length - 1 - i) (by omega)
 rw [if_neg (by omega),hu] at h2
 rw [List.getElem?_set,List.length_set,h.len]
 by_cases e1:xs.length - 1 - i=k
 ·rw [if_pos e1,if_pos (by omega),if_pos (by omega),h1]; congr 1; omega
 ·rw [if_neg e1,List.getElem?_set,h.len]
  by_cases e2:i=k
  ·rw [if_pos e2,if_pos (by omega),if_pos (by omega),h2]; congr 1; omega
  ·rw [if_neg e2,h.at_ k hk]
   by_cases e3:k<i∨xs.length - i≤k
   ·rw [if_pos e3,if_pos (by omega)]
   ·rw [if_neg e3,if_neg (by omega)]
theorem Turned.done {xs ys:List Nat} {i:Nat} (h:Turned xs ys i) (hi:xs.length≤2 * i+1):ys=xs.reverse:=by
 apply List.ext_getElem?
 intro k
 rcases Nat.lt_or_ge k xs.length with hk | hk
 ·rw [h.at_ k hk,List.getElem?_reverse hk]
  split
  ·rfl
  ·congr 1; omega
 ·rw [List.getElem?_eq_none (by rw [h.len]; exact hk),List.getElem?_eq_none (by rw [List.length_reverse]; exact hk)]
structure Back (tb:List En) (q0:Pl) (p:Pl) (cs:List Nat):Prop where
  at_:∃ v v0,tabOf tb p=some v∧tabOf tb q0=some v0∧v.1=v0.1∧v0.2=v.2++cs.reverse
theorem Back.init {tb:List En} {q0:Pl} {v0:Pl × List Nat} (h:tabOf tb q0=some v0):Back tb q0 q0 []:=⟨v0,v0,h,h,rfl,by simp⟩
theorem Back.step {tb:List En} {q0 p:Pl} {cs:List Nat} (h:Back tb q0 p cs) (hl:Lk tb) {e:En} (he:Js tb p=some e) (h0:0≤e.i):Back tb q0 e.p (cs++[e.i.toNat]):=by
 obtain ⟨v,v0,h1,h2,h3,h4⟩:=h.at_
 rcases hl.get he with ⟨a,_⟩ | ⟨i,v',a,b,c⟩
 ·omega
 ·rw [h1] at c
  simp only [Option.some.injEq] at c
  subst c
  refine ⟨v',v0,b,h2,h3,?_⟩
  rw [h4,a]
  simp
theorem Back.done {tb:List En} {q0 p:Pl} {cs:List Nat} (h:Back tb q0 p cs) (hl:Lk tb) {e:En} (he:Js tb p=some e) (h0:e.i<0):tabOf tb q0=some (p,cs.reverse):=by
 obtain ⟨v,v0,h1,h2,h3,h4⟩:=h.at_
 rcases hl.get he with ⟨_,b⟩ | ⟨i,v',a,b,c⟩
 ·rw [h1] at b
  simp only [Option.some.injEq] at b
  subst b
  rw [h2]
  congr 1
  exact Prod.ext h3.symm (by rw [h4]; rfl)
 ·omega
theorem Back.find {tb:List En} {q0 p:Pl} {cs:List Nat} (h:Back tb q0 p cs):∃ e,Js tb p=some e:=by
 obtain ⟨v,v0,h1,_⟩:=h.at_
 rw [Zox] at h1
 cases hf:Js tb p with
 | none=>rw [hf] at h1; cases h1
 | some e=>exact ⟨e,rfl⟩
theorem Back.len {tb:List En} {q0 p:Pl} {cs:List Nat} (h:Back tb q0 p cs) {v0:Pl × List Nat} (h0:tabOf tb q0=some v0):cs.length≤v0.2.length:=by
 obtain ⟨v,v1,h1,h2,h3,h4⟩:=h.at_
 rw [h0] at h2
 simp only [Option.some.injEq] at h2
 subst h2
 rw [h4]; simp
structure Rsn where
  d0:Nat
  k0:Nat
  ch:List Nat
  d:Nat
  n:Nat
  i:Nat
  deriving DecidableEq
def Rsn.cells (u:Rsn) (a:Option Addr) (c:Nat):List Value:=[natV u.d0,natV u.k0,.slice a u.ch.length c,natV u.d,natV u.n,natV u.i]
abbrev Rsn.val (u:Rsn) (a:Option Addr) (c:Nat):Value:=.agg #[natV u.d0,natV u.k0,.slice a u.ch.length c,natV u.d,natV u.n,natV u.i]
section
variable {s:Org} {h:HN} {r0 p0:Int} {b:Option Rsn} {i0:Nat} {x:St} {ks:List Nat} {i n:Nat}
end
def exDs : List Dv:=[⟨⟨#[103,114,101,97,116]⟩,36,60⟩]
def exRs : List Rk:=[⟨⟨#[102,108,117,116,101]⟩,2,8,1,36,37⟩,⟨⟨#[114,101,101,100]⟩,4,8,1,36,13⟩]
def exP1 : List Pt:=[⟨0,0,36,60⟩]
def exP2 : List Pt:=[⟨0,12,36,60⟩]
def exP3 : List Pt:=[⟨1,0,36,48⟩]
def exC1 : List Cp:=[⟨⟨#[111,99,116,97,118,101]⟩,0,0,12,0,false⟩]
def exSs (p1 p2 p3:Nat):List St:=[⟨⟨#[102,108,117,116,101,56]⟩,0,8,1,some ⟨p1,0,none⟩,1,exP1⟩,⟨⟨#[102,108,117,116,101,52]⟩,0,4,1,some ⟨p2,0,none⟩,1,exP2⟩,⟨⟨#[98,97,115,115]⟩,0,8,1,some ⟨p3,0,none⟩,1,exP3⟩]
def Zht (d r p1 p2 p3 t c:Nat):Org:=⟨some ⟨d,0,none⟩,1,exDs,some ⟨r,0,none⟩,2,exRs,some ⟨t,0,none⟩,3,exSs p1 p2 p3,some ⟨c,0,none⟩,1,exC1⟩
end Go.Sn
namespace Go.Ps
open Go.Gv
open Go.Sn
def orB (off:Nat) (g:List Nat) (i:Nat):List Nat:=g.set (off+i / 8) (g.getD (off+i / 8) 0 ||| 2 ^ (i % 8))
def packS (g:List Nat) (off:Nat) (l:List Nat):List Nat:=l.foldl (orB off) g
def pk0 : List Nat:=1::List.replicate 13 0
def packR (ss cs:List Nat):List Nat:=packS (packS pk0 1 ss) 11 cs
def JZ (b:List Nat) (off i:Nat):Bool:=(b.getD (off+i / 8) 0).testBit (i % 8)
def unpS (b:List Nat) (off n:Nat):List Nat:=(List.range n).filter (JZ b off)
theorem Zqo (off:Nat) (g:List Nat) (i:Nat):(orB off g i).length=g.length:=by unfold orB; rw [List.length_set]
theorem VB (off:Nat):∀ (l g:List Nat),(packS g off l).length=g.length
  | [],g=>rfl
  | i::l,g=>by
    show (packS (orB off g i) off l).length=_
    rw [VB off l,Zqo]
theorem Je (ss cs:List Nat):(packR ss cs).length=14:=by unfold packR; rw [VB,VB]; rfl
theorem getD_set_ne {g:List Nat} {i j v:Nat} (h:i≠j):(g.set i v).getD j 0=g.getD j 0:=by
 rw [List.getD_eq_getElem?_getD,List.getD_eq_getElem?_getD,List.getElem?_set_ne h]
theorem Znj {g:List Nat} {i v:Nat} (h:i<g.length):(g.set i v).getD i 0=v:=by
 rw [List.getD_eq_getElem?_getD,List.getElem?_set_self h]; rfl
theorem bit_or {off i j:Nat} {g:List Nat} (hi:off+i / 8<g.length):JZ (orB off g i) off j=(JZ g off j || decide (i=j)):=by
 unfold JZ orB
 by_cases hb:i / 8=j / 8
 ·rw [← hb,Znj hi,Nat.testBit_or,Nat.testBit_two_pow]
  congr 1
  rw [decide_eq_decide]
  omega
 ·rw [getD_set_ne (by omega)]
  have:¬ i=j:=fun e=>hb (by rw [e])
  simp [this]
theorem bit_far {off off' i j:Nat} {g:List Nat} (h:off+i / 8≠off'+j / 8):JZ (orB off g i) off' j=JZ g off' j:=by
 unfold JZ orB
 rw [getD_set_ne h]
theorem Zia {off:Nat}:∀ (l g:List Nat) (j:Nat),(∀ i∈l,off+i / 8<g.length)→JZ (packS g off l) off j=(JZ g off j || decide (j∈l))
  | [],g,j,_=>by simp [packS]
  | i::l,g,j,h=>by
    show JZ (packS (orB off g i) off l) off j=_
    rw [Zia l _ j (fun k hk=>by rw [Zqo]; exact h k (List.mem_cons_of_mem _ hk)),bit_or (h i List.mem_cons_self),Bool.or_assoc]
    congr 1
    by_cases e:i=j
    · subst e; simp
    · have:¬ j=i:=fun e2=>e e2.symm
      simp [e,this]
theorem Ze5 {off off':Nat}:∀ (l g:List Nat) (j:Nat),(∀ i∈l,off+i / 8≠off'+j / 8)→JZ (packS g off l) off' j=JZ g off' j
  | [],g,j,_=>rfl
  | i::l,g,j,h=>by
    show JZ (packS (orB off g i) off l) off' j=_
    rw [Ze5 l _ j (fun k hk=>h k (List.mem_cons_of_mem _ hk)),bit_far (h i List.mem_cons_self)]
theorem Zqp (off j:Nat) (h:0<off):JZ pk0 off j=false:=by
 unfold JZ pk0
 rw [show off+j / 8=(off - 1+j / 8)+1 by omega,List.getD_cons_succ]
 have:(List.replicate 13 0).getD (off - 1+j / 8) 0=0:=by
  rw [List.getD_eq_getElem?_getD,List.getElem?_replicate]
  split <;> rfl
 rw [this]; simp
theorem Zgt : ∀ {a b:List Nat},a.Pairwise (· < ·)→b.Pairwise (· < ·)→(∀ x,x∈a↔x∈b)→a=b
  | [],[],_,_,_=>rfl
  | [],y::ys,_,_,h=>by have:=(h y).2 List.mem_cons_self; cases this
  | x::xs,[],_,_,h=>by have:=(h x).1 List.mem_cons_self; cases this
  | x::xs,y::ys,ha,hb,h=>by
    obtain ⟨ha1,ha2⟩:=List.pairwise_cons.1 ha
    obtain ⟨hb1,hb2⟩:=List.pairwise_cons.1 hb
    have e:x=y:=by
      have h1:=(h x).1 List.mem_cons_self
      have h2:=(h y).2 List.mem_cons_self
      rcases List.mem_cons.1 h1 with e | e
      · exact e
      · rcases List.mem_cons.1 h2 with e2 | e2
        · exact e2.symm
        · have:=hb1 x e; have:=ha1 y e2; omega
    subst e
    congr 1
    refine Zgt ha2 hb2 fun z=>⟨fun hz=>?_,fun hz=>?_⟩
    · rcases List.mem_cons.1 ((h z).1 (List.mem_cons_of_mem _ hz)) with e | e
      · subst e; exact absurd (ha1 _ hz) (Nat.lt_irrefl _)
      · exact e
    · rcases List.mem_cons.1 ((h z).2 (List.mem_cons_of_mem _ hz)) with e | e
      · subst e; exact absurd (hb1 _ hz) (Nat.lt_irrefl _)
      · exact e
theorem W8 (n:Nat) (f:Nat→Bool):((List.range n).filter f).Pairwise (· < ·):=List.Pairwise.filter _ List.pairwise_lt_range
theorem Zc5 {l:List Nat} {n:Nat} (h:l.Pairwise (· < ·)) (hn:∀ i∈l,i<n) {f:Nat→Bool} (hf:∀ i,i<n→(f i=true↔i∈l)):(List.range n).filter f=l :=
  Zgt (W8 n f) h fun x=>by
    rw [List.mem_filter,List.mem_range]
    exact ⟨fun h1=>(hf x h1.1).1 h1.2,fun h1=>⟨hn x h1,(hf x (hn x h1)).2 h1⟩⟩
theorem Zr1 {ss cs:List Nat} (h:ss.Pairwise (· < ·)) (hs:∀ i∈ss,i<80) (hc:∀ i∈cs,i<24):unpS (packR ss cs) 1 80=ss:=by
 refine Zc5 h hs fun i hi=>?_
 unfold packR
 rw [Ze5 cs _ i (fun k hk=>by omega),Zia ss _ i (fun k hk=>by have:=hs k hk; show 1+k / 8<14; omega),Zqp _ _ (by decide)]
 simp
theorem Zr2 {ss cs:List Nat} (h:cs.Pairwise (· < ·)) (hs:∀ i∈ss,i<80) (hc:∀ i∈cs,i<24):unpS (packR ss cs) 11 24=cs:=by
 refine Zc5 h hc fun i hi=>?_
 unfold packR
 rw [Zia cs _ i (fun k hk=>by rw [VB]; have:=hc k hk; show 11+k / 8<14; omega),Ze5 ss _ i (fun k hk=>by have:=hs k hk; omega),Zqp _ _ (by decide)]
 simp
theorem orB_lt {off i:Nat} {g:List Nat} (h:∀ z∈g,z<256):∀ z∈orB off g i,z<256:=fun z hz=>by
 unfold orB at hz
 rcases List.mem_or_eq_of_mem_set hz with h1 | rfl
 ·exact h z h1
 ·have h2:g.getD (off+i / 8) 0<256:=by
   rw [List.getD_eq_getElem?_getD]
   cases e:g[off+i / 8]? with
   | none=>simp
   | some x=>simpa using h x (List.mem_of_getElem? e)
  have h3:2 ^ (i % 8)<2 ^ 8:=Nat.pow_lt_pow_right (by decide) (Nat.mod_lt _ (by decide))
  exact Nat.or_lt_two_pow (n:=8) h2 h3
theorem Zaf {off:Nat}:∀ (l g:List Nat),(∀ z∈g,z<256)→∀ z∈packS g off l,z<256
  | [],g,h=>h
  | i::l,g,h=>Zaf l _ (orB_lt h)
theorem Zib (ss cs:List Nat):∀ z∈packR ss cs,z<256:=Zaf _ _ (Zaf _ _ (by decide))
structure Pis where
  lv:Int
  dv:Int
  nm:Int
  deriving DecidableEq,Inhabited
abbrev Rg := List Nat × List Nat
abbrev VL := Nat→Option (Nat × List Nat)
def pnE (nd:Nat) (x:Pis):Int :=
  if x.lv<1∨8<x.lv∨x.nm<1∨(if x.dv = -1 then 20 else 8)<x.nm then 7 else if x.dv < -1∨(nd:Int)≤x.dv then 4 else 0
def kyP (x:Pis):Int:=if x.dv<0 then (x.lv - 1) * 68+x.nm - 1+1 else (x.lv - 1) * 68+x.nm - 1+21+x.dv * 8
def keyN (x:Pis):Nat:=(kyP x).toNat
theorem pn_ok {nd:Nat} {x:Pis}:pnE nd x=0↔1≤x.lv∧x.lv≤8∧1≤x.nm∧x.nm≤(if x.dv = -1 then 20 else 8)∧-1≤x.dv∧x.dv<nd:=by
 unfold pnE
 generalize (if x.dv = -1 then (20:Int) else 8)=m
 split
 ·rename_i h
  constructor
  ·intro e; cases e
  ·rintro ⟨h1,h2,h3,h4,h5,h6⟩; omega
 ·rename_i h
  split
  ·rename_i h'
   constructor
   ·intro e; cases e
   ·rintro ⟨h1,h2,h3,h4,h5,h6⟩; omega
  ·rename_i h'
   exact ⟨fun _=>⟨by omega,by omega,by omega,by omega,by omega,by omega⟩,fun _=>rfl⟩
theorem key_rng {nd:Nat} (hn:nd≤6) {x:Pis} (h:pnE nd x=0):1≤kyP x∧kyP x≤544:=by
 obtain ⟨h1,h2,h3,h4,h5,h6⟩:=pn_ok.1 h
 unfold kyP
 by_cases hd:x.dv = -1
 ·rw [if_pos hd] at h4
  rw [if_pos (by omega)]; omega
 ·rw [if_neg hd] at h4
  rw [if_neg (by omega)]; omega
theorem Xw {nd:Nat} (hn:nd≤6) {x:Pis} (h:pnE nd x=0):1≤keyN x∧keyN x≤544∧((keyN x:Nat):Int)=kyP x:=by
 have:=key_rng hn h
 unfold keyN
 omega
theorem key_inj {nd:Nat} (hn:nd≤6) {x y:Pis} (hx:pnE nd x=0) (hy:pnE nd y=0) (h:keyN x=keyN y):x=y:=by
 have h0:kyP x=kyP y:=by
  have a:=(Xw hn hx).2.2
  have b:=(Xw hn hy).2.2
  omega
 obtain ⟨a1,a2,a3,a4,a5,a6⟩:=pn_ok.1 hx
 obtain ⟨b1,b2,b3,b4,b5,b6⟩:=pn_ok.1 hy
 obtain ⟨l1,d1,n1⟩:=x
 obtain ⟨l2,d2,n2⟩:=y
 simp only at a1 a2 a3 a4 a5 a6 b1 b2 b3 b4 b5 b6
 unfold kyP at h0
 simp only at h0
 by_cases hd1:d1 = -1
 ·rw [if_pos hd1] at a4
  rw [if_pos (by omega)] at h0
  by_cases hd2:d2 = -1
  ·rw [if_pos hd2] at b4
   rw [if_pos (by omega)] at h0
   have:l1=l2:=by rcases Int.lt_trichotomy l1 l2 with h | h | h <;> omega
   have:n1=n2:=by omega
   subst_vars; rfl
  ·rw [if_neg hd2] at b4
   rw [if_neg (by omega)] at h0
   exfalso
   rcases Int.lt_trichotomy l1 l2 with h | h | h <;> omega
 ·rw [if_neg hd1] at a4
  rw [if_neg (by omega)] at h0
  by_cases hd2:d2 = -1
  ·rw [if_pos hd2] at b4
   rw [if_pos (by omega)] at h0
   exfalso
   rcases Int.lt_trichotomy l1 l2 with h | h | h <;> omega
  ·rw [if_neg hd2] at b4
   rw [if_neg (by omega)] at h0
   have e1:l1=l2:=by rcases Int.lt_trichotomy l1 l2 with h | h | h <;> omega
   subst e1
   have e2:d1=d2:=by rcases Int.lt_trichotomy d1 d2 with h | h | h <;> omega
   have e3:n1=n2:=by omega
   subst e2 e3; rfl
def lsB (a b:Pis):Bool:=decide (a.lv<b.lv) || (decide (a.lv=b.lv) && (decide (a.dv<b.dv) || (decide (a.dv=b.dv) && decide (a.nm<b.nm))))
theorem WP (a b:Pis):lsB a b=true↔a.lv<b.lv∨(a.lv=b.lv∧(a.dv<b.dv∨(a.dv=b.dv∧a.nm<b.nm))):=by
 unfold lsB; simp only [Bool.or_eq_true,Bool.and_eq_true,decide_eq_true_eq]
theorem Zlp {a b:Pis} (h1:a.lv=b.lv) (h2:a.dv=b.dv) (h3:a.nm=b.nm):a=b:=by
 obtain ⟨l1,d1,n1⟩:=a
 obtain ⟨l2,d2,n2⟩:=b
 simp only at h1 h2 h3
 subst h1 h2 h3; rfl
theorem less_tri (a b:Pis):lsB a b=true∨a=b∨lsB b a=true:=by
 rw [WP,WP]
 by_cases h:a.lv=b.lv∧a.dv=b.dv∧a.nm=b.nm
 ·exact .inr (.inl (Zlp h.1 h.2.1 h.2.2))
 ·rcases Int.lt_trichotomy a.lv b.lv with h1 | h1 | h1
  ·exact .inl (.inl h1)
  ·rcases Int.lt_trichotomy a.dv b.dv with h2 | h2 | h2
   ·exact .inl (.inr ⟨h1,.inl h2⟩)
   ·rcases Int.lt_trichotomy a.nm b.nm with h3 | h3 | h3
    ·exact .inl (.inr ⟨h1,.inr ⟨h2,h3⟩⟩)
    ·exact absurd ⟨h1,h2,h3⟩ h
    ·exact .inr (.inr (.inr ⟨h1.symm,.inr ⟨h2.symm,h3⟩⟩))
   ·exact .inr (.inr (.inr ⟨h1.symm,.inl h2⟩))
  ·exact .inr (.inr (.inl h1))
theorem WQ (a:Pis):lsB a a=false:=by
 cases h:lsB a a with
 | false=>rfl
 | true=>rw [WP] at h; omega
theorem Zic {a b c:Pis} (h1:lsB a b=true) (h2:lsB b c=true):lsB a c=true:=by
 rw [WP] at *; omega
def XJ (V:VL) (x:Pis):Option Rg:=match V (keyN x) with
  | some (_,bs)=>if bs.length=14 then some (unpS bs 1 80,unpS bs 11 24) else none
  | none=>none
def Yx (l:List (Pis × Rg)) (x:Pis):Option Rg:=(l.find? fun p=>decide (p.1=x)).map (·.2)
def forgetR (l:List (Pis × Rg)) (x:Pis):List (Pis × Rg):=l.filter fun p=>decide (p.1≠x)
def JP (x:Pis) (r:Rg) (s:List (Pis × Rg) × Bool) (p:Pis × Rg):List (Pis × Rg) × Bool :=
  let s1:=if !s.2 && !lsB p.1 x then (s.1++[(x,r)],true) else s
  (if p.1=x then s1.1 else s1.1++[p],s1.2)
def VS (l:List (Pis × Rg)) (x:Pis) (r:Rg):List (Pis × Rg) :=
  let s:=l.foldl (JP x r) ([],false)
  if s.2 then s.1 else s.1++[(x,r)]
def Xt (l:List (Pis × Rg)):Prop:=l.Pairwise fun a b=>lsB a.1 b.1=true
theorem Znk {l:List (Pis × Rg)} (h:Xt l) {x:Pis} {r q:Rg} (h1:(x,r)∈l) (h2:(x,q)∈l):r=q:=by
 induction l with
 | nil=>cases h1
 | cons a l ih =>
  obtain ⟨ha,hl⟩:=List.pairwise_cons.1 h
  rcases List.mem_cons.1 h1 with e1 | e1 <;> rcases List.mem_cons.1 h2 with e2 | e2
  ·rw [← e1] at e2; exact (Prod.mk.inj e2).2.symm
  ·have:=ha _ e2; rw [← e1] at this; rw [WQ] at this; cases this
  ·have:=ha _ e1; rw [← e2] at this; rw [WQ] at this; cases this
  ·exact ih hl e1 e2
theorem place_is {l:List (Pis × Rg)} (h:Xt l) {x:Pis} {r:Rg}:Yx l x=some r↔(x,r)∈l:=by
 unfold Yx
 constructor
 ·intro e
  cases hf:l.find? fun p=>decide (p.1=x) with
  | none=>rw [hf] at e; cases e
  | some p =>
   rw [hf] at e
   have h1:=List.mem_of_find?_eq_some hf
   have h2:=List.find?_some hf
   have h2:=of_decide_eq_true h2
   have e:p.2=r:=Option.some.inj e
   obtain ⟨y,q⟩:=p
   simp only at h2 e
   subst h2 e; exact h1
 ·intro hm
  cases hf:l.find? fun p=>decide (p.1=x) with
  | none =>
   rw [List.find?_eq_none] at hf
   exact absurd (decide_eq_true rfl) (hf _ hm)
  | some p =>
   have h1:=List.mem_of_find?_eq_some hf
   have h2:=List.find?_some hf
   have h2:=of_decide_eq_true h2
   obtain ⟨y,q⟩:=p
   simp only at h2
   subst h2
   rw [Option.map_some,Znk h h1 hm]
theorem Zc6 {l:List (Pis × Rg)} (h:Xt l) {x:Pis}:Yx l x=none↔∀ r,(x,r) ∉ l:=by
 constructor
 ·intro e r hm; rw [(place_is h).2 hm] at e; cases e
 ·intro hno
  cases e:Yx l x with
  | none=>rfl
  | some r=>exact absurd ((place_is h).1 e) (hno r)
theorem WR {l:List (Pis × Rg)} (h:Xt l) (x:Pis):Xt (forgetR l x):=List.Pairwise.filter _ h
theorem forget_mem {l:List (Pis × Rg)} {x:Pis} {p:Pis × Rg}:p∈forgetR l x↔p∈l∧p.1≠x:=by
 unfold forgetR; rw [List.mem_filter,decide_eq_true_eq]
theorem Zj3 (x:Pis) (r:Rg):∀ (l out:List (Pis × Rg)),l.foldl (JP x r) (out,true)=(out++forgetR l x,true)
  | [],out=>by simp [forgetR]
  | p::l,out=>by
    rw [List.foldl_cons]
    have e:JP x r (out,true) p=(out++forgetR [p] x,true):=by
      unfold JP forgetR
      by_cases hp:p.1=x <;> simp [hp]
    rw [e,Zj3 x r l]
    congr 1
    rw [List.append_assoc]
    congr 1
    unfold forgetR
    rw [← List.filter_append]; rfl
theorem Zid (x:Pis) (r:Rg):∀ (l:List (Pis × Rg)),Xt l→∀ out,(l.foldl (JP x r) (out,false))=if l.all (fun p=>lsB p.1 x) then (out++l,false) else (out++l.takeWhile (fun p=>lsB p.1 x)++[(x,r)]++forgetR (l.dropWhile fun p=>lsB p.1 x) x,true)
  | [],_,out=>by simp
  | p::l,h,out=>by
    obtain ⟨h1,h2⟩:=List.pairwise_cons.1 h
    rw [List.foldl_cons]
    by_cases hp:lsB p.1 x=true
    · have hne:¬ p.1=x:=fun e=>by rw [e,WQ] at hp; cases hp
      have e:JP x r (out,false) p=(out++[p],false):=by unfold JP; simp [hp,hne]
      have t1:(p::l).takeWhile (fun p=>lsB p.1 x)=p::l.takeWhile (fun p=>lsB p.1 x):=by rw [List.takeWhile_cons]; simp [hp]
      have t2:(p::l).dropWhile (fun p=>lsB p.1 x)=l.dropWhile (fun p=>lsB p.1 x):=by rw [List.dropWhile_cons]; simp [hp]
      rw [e,Zid x r l h2,t1,t2]
      simp only [List.all_cons,hp,Bool.true_and]
      split <;> simp
    · have hp':lsB p.1 x=false:=by simpa using hp
      have e:JP x r (out,false) p=(out++[(x,r)]++forgetR [p] x,true):=by
        unfold JP forgetR
        by_cases he:p.1=x <;> simp [hp',he,WQ]
      have t1:(p::l).takeWhile (fun p=>lsB p.1 x)=[]:=by rw [List.takeWhile_cons]; simp [hp']
      have t2:(p::l).dropWhile (fun p=>lsB p.1 x)=p::l:=by rw [List.dropWhile_cons]; simp [hp']
      rw [e,Zj3,t1,t2]
      simp only [List.all_cons,hp',Bool.false_and,Bool.false_eq_true,if_false,List.append_nil]
      congr 1
      rw [List.append_assoc]
      congr 1
      unfold forgetR
      rw [← List.filter_append]; rfl
theorem Znl {f:Pis × Rg→Bool}:∀ (l:List (Pis × Rg)),(∀ p∈l,f p=true)→l.takeWhile f=l
  | [],_=>rfl
  | a::l,h=>by
    rw [List.takeWhile_cons,h a List.mem_cons_self]
    simp only [if_true]
    rw [Znl l fun p hp=>h p (List.mem_cons_of_mem _ hp)]
theorem Zqq {l:List (Pis × Rg)} (h:Xt l) (x:Pis) (r:Rg):VS l x r=l.takeWhile (fun p=>lsB p.1 x)++[(x,r)]++forgetR (l.dropWhile fun p=>lsB p.1 x) x:=by
 unfold VS
 rw [Zid x r l h]
 by_cases ha:l.all (fun p=>lsB p.1 x)=true
 ·rw [if_pos ha]
  have h1:l.takeWhile (fun p=>lsB p.1 x)=l:=by
   exact Znl l (fun p hp=>List.all_eq_true.1 ha p hp)
  have h2:l.dropWhile (fun p=>lsB p.1 x)=[]:=by
   have:=List.takeWhile_append_dropWhile (p:=fun p:Pis × Rg=>lsB p.1 x) (l:=l)
   rw [h1] at this
   have h3:l++l.dropWhile (fun p=>lsB p.1 x)=l++[]:=by rw [this,List.append_nil]
   exact List.append_cancel_left h3
  rw [h1,h2]
  simp [forgetR]
 ·rw [if_neg ha]; simp
theorem Zct {l:List (Pis × Rg)} {x:Pis}:∀ p∈l.takeWhile (fun p=>lsB p.1 x),lsB p.1 x=true:=fun p hp=>by
 have:=List.all_takeWhile (p:=fun p:Pis × Rg=>lsB p.1 x) (l:=l)
 exact List.all_eq_true.1 this p hp
theorem Zi6 {l:List (Pis × Rg)} (h:Xt l) {x:Pis}:∀ p∈l.dropWhile (fun p=>lsB p.1 x),lsB p.1 x=false:=by
 induction l with
 | nil=>intro p hp; cases hp
 | cons a l ih =>
  obtain ⟨h1,h2⟩:=List.pairwise_cons.1 h
  by_cases ha:lsB a.1 x=true
  ·rw [show (a::l).dropWhile (fun p=>lsB p.1 x)=l.dropWhile (fun p=>lsB p.1 x) by rw [List.dropWhile_cons]; simp [ha]]; exact ih h2
  ·rw [show (a::l).dropWhile (fun p=>lsB p.1 x)=a::l by rw [List.dropWhile_cons]; simp [ha]]
   intro p hp
   rcases List.mem_cons.1 hp with rfl | hp
   ·simpa using ha
   ·cases e:lsB p.1 x with
    | false=>rfl
    | true=>exact absurd (Zic (h1 p hp) e) ha
theorem Ju {l:List (Pis × Rg)} (h:Xt l) {x:Pis} {r:Rg} {p:Pis × Rg}:p∈VS l x r↔p=(x,r)∨(p∈l∧p.1≠x):=by
 rw [Zqq h]
 have hsp:=List.takeWhile_append_dropWhile (p:=fun p:Pis × Rg=>lsB p.1 x) (l:=l)
 constructor
 ·intro hp
  rcases List.mem_append.1 hp with hp | hp
  ·rcases List.mem_append.1 hp with hp | hp
   ·refine .inr ⟨by rw [← hsp]; exact List.mem_append_left _ hp,fun e=>?_⟩
    have:=Zct p hp
    rw [e,WQ] at this; cases this
   ·exact .inl (List.mem_singleton.1 hp)
  ·obtain ⟨h1,h2⟩:=forget_mem.1 hp
   exact .inr ⟨by rw [← hsp]; exact List.mem_append_right _ h1,h2⟩
 ·rintro (rfl | ⟨h1,h2⟩)
  ·exact List.mem_append_left _ (List.mem_append_right _ (List.mem_singleton.2 rfl))
  ·rw [← hsp] at h1
   rcases List.mem_append.1 h1 with h1 | h1
   ·exact List.mem_append_left _ (List.mem_append_left _ h1)
   ·exact List.mem_append_right _ (forget_mem.2 ⟨h1,h2⟩)
theorem JQ {l:List (Pis × Rg)} (h:Xt l) (x:Pis) (r:Rg):Xt (VS l x r):=by
 rw [Zqq h]
 have hsp:=List.takeWhile_append_dropWhile (p:=fun p:Pis × Rg=>lsB p.1 x) (l:=l)
 have hs:=h
 rw [← hsp] at hs
 obtain ⟨h1,h2,h3⟩:=List.pairwise_append.1 hs
 have hgt:∀ p∈forgetR (l.dropWhile fun p=>lsB p.1 x) x,lsB x p.1=true:=fun p hp=>by
  obtain ⟨ha,hb⟩:=forget_mem.1 hp
  rcases less_tri x p.1 with e | e | e
  ·exact e
  ·exact absurd e.symm hb
  ·rw [Zi6 h p ha] at e; cases e
 refine List.pairwise_append.2 ⟨List.pairwise_append.2 ⟨h1,List.pairwise_singleton _ _,fun a ha b hb=>?_⟩,WR h2 x,fun a ha b hb=>?_⟩
 ·rw [List.mem_singleton.1 hb]; exact Zct a ha
 ·rcases List.mem_append.1 ha with ha | ha
  ·exact h3 a ha b (forget_mem.1 hb).1
  ·rw [List.mem_singleton.1 ha]; exact hgt b hb
structure RgOk (ns nc:Nat) (r:Rg):Prop where
  s:r.1.Pairwise (· < ·)
  c:r.2.Pairwise (· < ·)
  sn:∀ i∈r.1,i<ns
  cn:∀ i∈r.2,i<nc
def Zc7 (V:VL) (k n:Nat) (bs:List Nat):VL:=fun j=>if j=k then some (n,bs) else V j
structure PR (nd ns nc:Nat) (V:VL) (U:List Pis) (L:List (Pis × Rg)):Prop where
  hnd:nd≤6
  hns:ns≤80
  hnc:nc≤24
  srt:Xt L
  lok:∀ p∈L,pnE nd p.1=0∧RgOk ns nc p.2
  lus:∀ p∈L,p.1∈U
  und:U.Nodup
  uok:∀ x∈U,pnE nd x=0
  v1:∀ x,pnE nd x=0→(V (keyN x)=none↔x ∉ U)
  v2:∀ x n bs,pnE nd x=0→V (keyN x)=some (n,bs)→(bs=[]∧∀ r,(x,r) ∉ L)∨∃ r,(x,r)∈L∧bs=packR r.1 r.2
  v3:∃ n,V 0=some (n,[nd,ns,nc])
  v4:∀ k,V k≠none→k=0∨∃ x,pnE nd x=0∧keyN x=k
section
variable {nd ns nc:Nat} {V:VL} {U:List Pis} {L:List (Pis × Rg)}
theorem PR.kept (h:PR nd ns nc V U L) {x:Pis} (hx:pnE nd x=0):XJ V x=Yx L x:=by
 unfold XJ
 cases hv:V (keyN x) with
 | none =>
  have hU:=(h.v1 x hx).1 hv
  exact ((Zc6 h.srt).2 fun r hr=>hU (h.lus _ hr)).symm
 | some p =>
  obtain ⟨n,bs⟩:=p
  simp only
  rcases h.v2 x n bs hx hv with ⟨rfl,hno⟩ | ⟨r,hr,rfl⟩
  ·rw [if_neg (by decide),(Zc6 h.srt).2 hno]
  ·rw [if_pos (Je _ _),(place_is h.srt).2 hr]
   have hok:=(h.lok _ hr).2
   have hs:∀ i∈r.1,i<80:=fun i hi=>Nat.lt_of_lt_of_le (hok.sn i hi) h.hns
   have hc:∀ i∈r.2,i<24:=fun i hi=>Nat.lt_of_lt_of_le (hok.cn i hi) h.hnc
   rw [Zr1 hok.s hs hc,Zr2 hok.c hs hc]
theorem PR.bytes (h:PR nd ns nc V U L) {x:Pis} (hx:pnE nd x=0) {n:Nat} {bs:List Nat} (hv:V (keyN x)=some (n,bs)):bs.length≤14∧∀ z∈bs,z<256:=by
 rcases h.v2 x n bs hx hv with ⟨rfl,_⟩ | ⟨r,_,rfl⟩
 ·exact ⟨by decide,fun z hz=>by cases hz⟩
 ·exact ⟨by rw [Je]; decide,Zib _ _⟩
def Xc (U:List Pis) (x:Pis):List Pis:=if x∈U then U else U++[x]
theorem used_mem {x y:Pis}:y∈Xc U x↔y∈U∨y=x:=by
 unfold Xc
 split
 ·rename_i h
  exact ⟨.inl,fun h2=>h2.elim id fun e=>e ▸ h⟩
 ·rw [List.mem_append,List.mem_singleton]
theorem Zpe (h:U.Nodup) (x:Pis):(Xc U x).Nodup:=by
 unfold Xc
 split
 ·exact h
 ·rename_i hx
  rw [List.nodup_append]
  exact ⟨h,by simp,fun a ha b hb e=>hx (by rw [← List.mem_singleton.1 hb,← e]; exact ha)⟩
theorem PR.set (h:PR nd ns nc V U L) {x:Pis} (hx:pnE nd x=0) {r:Rg} (hr:RgOk ns nc r) (n:Nat):PR nd ns nc (Zc7 V (keyN x) n (packR r.1 r.2)) (Xc U x) (VS L x r):=by
 have hk:=Xw h.hnd hx
 refine ⟨h.hnd,h.hns,h.hnc,JQ h.srt x r,fun p hp=>?_,fun p hp=>?_,Zpe h.und x,fun y hy=>?_,fun y hy=>?_,fun y m bs hy hv=>?_,?_,fun k hv=>?_⟩
 ·rcases (Ju h.srt).1 hp with rfl | ⟨h1,_⟩
  ·exact ⟨hx,hr⟩
  ·exact h.lok p h1
 ·rcases (Ju h.srt).1 hp with rfl | ⟨h1,_⟩
  ·exact used_mem.2 (.inr rfl)
  ·exact used_mem.2 (.inl (h.lus p h1))
 ·rcases used_mem.1 hy with h1 | rfl
  ·exact h.uok y h1
  ·exact hx
 ·rw [used_mem]
  unfold Zc7
  by_cases e:keyN y=keyN x
  ·rw [if_pos e]
   have:=key_inj h.hnd hy hx e
   subst this
   simp
  ·rw [if_neg e,h.v1 y hy]
   have:¬ y=x:=fun e2=>e (by rw [e2])
   simp [this]
 ·unfold Zc7 at hv
  by_cases e:keyN y=keyN x
  ·rw [if_pos e] at hv
   have:=key_inj h.hnd hy hx e
   subst this
   have hv:=(Prod.mk.inj (Option.some.inj hv)).2
   exact .inr ⟨r,(Ju h.srt).2 (.inl rfl),hv.symm⟩
  ·rw [if_neg e] at hv
   have hne:¬ y=x:=fun e2=>e (by rw [e2])
   rcases h.v2 y m bs hy hv with ⟨h1,h2⟩ | ⟨q,h1,h2⟩
   ·refine .inl ⟨h1,fun q hq=>?_⟩
    rcases (Ju h.srt).1 hq with e2 | ⟨h3,_⟩
    ·exact hne (Prod.mk.inj e2).1
    ·exact h2 q h3
   ·exact .inr ⟨q,(Ju h.srt).2 (.inr ⟨h1,hne⟩),h2⟩
 ·obtain ⟨m,hm⟩:=h.v3
  refine ⟨m,?_⟩
  unfold Zc7
  rw [if_neg (by omega)]; exact hm
 ·unfold Zc7 at hv
  by_cases e:k=keyN x
  ·exact .inr ⟨x,hx,e.symm⟩
  ·rw [if_neg e] at hv; exact h.v4 k hv
theorem PR.clear (h:PR nd ns nc V U L) {x:Pis} (hx:pnE nd x=0) (hU:x∈U) (n:Nat):PR nd ns nc (Zc7 V (keyN x) n []) U (forgetR L x):=by
 have hk:=Xw h.hnd hx
 refine ⟨h.hnd,h.hns,h.hnc,WR h.srt x,fun p hp=>h.lok p (forget_mem.1 hp).1,fun p hp=>h.lus p (forget_mem.1 hp).1,h.und,h.uok,fun y hy=>?_,fun y m bs hy hv=>?_,?_,fun k hv=>?_⟩
 ·unfold Zc7
  by_cases e:keyN y=keyN x
  ·rw [if_pos e]
   have:=key_inj h.hnd hy hx e
   subst this
   simp [hU]
  ·rw [if_neg e]; exact h.v1 y hy
 ·unfold Zc7 at hv
  by_cases e:keyN y=keyN x
  ·rw [if_pos e] at hv
   have:=key_inj h.hnd hy hx e
   subst this
   have hv:=(Prod.mk.inj (Option.some.inj hv)).2
   exact .inl ⟨hv.symm,fun q hq=>(forget_mem.1 hq).2 rfl⟩
  ·rw [if_neg e] at hv
   have hne:¬ y=x:=fun e2=>e (by rw [e2])
   rcases h.v2 y m bs hy hv with ⟨h1,h2⟩ | ⟨q,h1,h2⟩
   ·exact .inl ⟨h1,fun q hq=>h2 q (forget_mem.1 hq).1⟩
   ·exact .inr ⟨q,forget_mem.2 ⟨h1,hne⟩,h2⟩
 ·obtain ⟨m,hm⟩:=h.v3
  refine ⟨m,?_⟩
  unfold Zc7
  rw [if_neg (by omega)]; exact hm
 ·unfold Zc7 at hv
  by_cases e:k=keyN x
  ·exact .inr ⟨x,hx,e.symm⟩
  ·rw [if_neg e] at hv; exact h.v4 k hv
theorem Zr3 (hs:Xt L) {x:Pis} (h:Yx L x=none):forgetR L x=L:=by
 have hno:=(Zc6 hs).1 h
 unfold forgetR
 rw [List.filter_eq_self]
 intro p hp
 refine decide_eq_true fun e=>?_
 obtain ⟨y,q⟩:=p
 simp only at e
 subst e
 exact hno q hp
theorem PR.count (h:PR nd ns nc V U L) {ks:List Nat} (hn:ks.Nodup) (hk:∀ k,k∈ks↔V k≠none):ks.length=U.length+1:=by
 have hinj:(0::U.map keyN).Nodup:=by
  rw [List.nodup_cons]
  refine ⟨fun hm=>?_,?_⟩
  ·obtain ⟨x,hx,e⟩:=List.mem_map.1 hm
   have:=(Xw h.hnd (h.uok x hx)).1
   omega
  ·have aux:∀ W:List Pis,W.Nodup→(∀ x∈W,pnE nd x=0)→(W.map keyN).Nodup:=by
    intro W
    induction W with
    | nil=>intro _ _; simp
    | cons a W ih =>
     intro h1 h2
     obtain ⟨h3,h4⟩:=List.nodup_cons.1 h1
     rw [List.map_cons,List.nodup_cons]
     refine ⟨fun hm=>?_,ih h4 fun x hx=>h2 x (List.mem_cons_of_mem _ hx)⟩
     obtain ⟨y,hy,e⟩:=List.mem_map.1 hm
     have:=key_inj h.hnd (h2 y (List.mem_cons_of_mem _ hy)) (h2 a List.mem_cons_self) e
     subst this
     exact h3 hy
   exact aux U h.und h.uok
 have hp:ks.Perm (0::U.map keyN):=(List.perm_ext_iff_of_nodup hn hinj).2 fun k=>by
  rw [hk]
  constructor
  ·intro hv
   rcases h.v4 k hv with rfl | ⟨x,hx,rfl⟩
   ·exact List.mem_cons_self
   ·refine List.mem_cons_of_mem _ (List.mem_map.2 ⟨x,?_,rfl⟩)
    apply Classical.byContradiction
    intro hno
    exact hv ((h.v1 x hx).2 hno)
  ·intro hm
   rcases List.mem_cons.1 hm with rfl | hm
   ·obtain ⟨m,e⟩:=h.v3
    rw [e]; simp
   ·obtain ⟨x,hx,rfl⟩:=List.mem_map.1 hm
    intro hv
    exact (h.v1 x (h.uok x hx)).1 hv hx
 have:=hp.length_eq
 simpa using this
theorem PR.start (hnd:nd≤6) (hns:ns≤80) (hnc:nc≤24) {n:Nat}:PR nd ns nc (Zc7 (fun _=>none) 0 n [nd,ns,nc]) [] []:=by
 refine ⟨hnd,hns,hnc,List.Pairwise.nil,by simp,by simp,List.nodup_nil,by simp,fun x hx=>?_,fun x m bs hx hv=>?_,⟨n,by unfold Zc7; simp⟩,fun k hv=>?_⟩
 ·have:=Xw hnd hx
  unfold Zc7
  rw [if_neg (by omega)]; simp
 ·have:=Xw hnd hx
  unfold Zc7 at hv
  rw [if_neg (by omega)] at hv; cases hv
 ·unfold Zc7 at hv
  by_cases e:k=0
  ·exact .inl e
  ·rw [if_neg e] at hv; exact absurd rfl hv
end
def VX (n:Nat) (f:Nat→Bool) (kept now:List Nat):List Nat:=(List.range n).filter fun i=>(f i && decide (i∈kept)) || (!f i && decide (i∈now))
theorem press_is {n:Nat} {f:Nat→Bool} {kept now l:List Nat} (hk:∀ i∈kept,i<n) (hw:∀ i∈now,i<n) (hkn:kept.Nodup) (hwn:now.Nodup) (hp:l.Perm (now.filter (fun i=>!f i)++kept.filter f)) (hs:l.Pairwise (·≤·)):l=VX n f kept now:=by
 have hnd:l.Nodup:=by
  rw [hp.nodup_iff,List.nodup_append]
  refine ⟨hwn.filter _,hkn.filter _,fun a ha b hb e=>?_⟩
  subst e
  have h1:=(List.mem_filter.1 ha).2
  have h2:=(List.mem_filter.1 hb).2
  rw [h2] at h1; cases h1
 have hlt:l.Pairwise (· < ·):=by
  have:=hs.and hnd
  exact this.imp fun {a b} h=>Nat.lt_of_le_of_ne h.1 h.2
 refine Zgt hlt (W8 n _) fun x=>?_
 unfold VX
 rw [hp.mem_iff,List.mem_append,List.mem_filter,List.mem_filter,List.mem_filter,List.mem_range]
 constructor
 ·rintro (⟨h1,h2⟩ | ⟨h1,h2⟩)
  ·exact ⟨hw x h1,by simp [h1,h2]⟩
  ·exact ⟨hk x h1,by simp [h1,h2]⟩
 ·rintro ⟨h1,h2⟩
  simp only [Bool.or_eq_true,Bool.and_eq_true,decide_eq_true_eq] at h2
  rcases h2 with ⟨h3,h4⟩ | ⟨h3,h4⟩
  ·exact .inr ⟨h4,h3⟩
  ·exact .inl ⟨h4,h3⟩
abbrev RS := List Pis × List (Pis × Rg)
def atL (x:Pis) (to:Int):Pis:=⟨to,x.dv,x.nm⟩
def Vt (room:Nat) (U:List Pis) (x:Pis):Prop:=x ∉ U∧room≤U.length+1
instance (room : Nat) (U : List Pis) (x : Pis) : Decidable (Vt room U x) := by unfold Vt; infer_instance
def Y4 (room:Nat) (to:Int) (s:RS) (x:Pis):RS × Int :=
  match Yx s.2 x with
  | none=>((s.1,forgetR s.2 (atL x to)),0)
  | some r=>if Vt room s.1 (atL x to) then (s,5) else ((Xc s.1 (atL x to),VS s.2 (atL x to) r),0)
def Y2 (room:Nat) (to:Int):List Pis→RS→RS × Int
  | [],s=>(s,0)
  | x::xs,s=>if (Y4 room to s x).2=0 then Y2 room to xs (Y4 room to s x).1 else Y4 room to s x
def YI (nd:Nat) (lv:Int):List Pis:=(List.range (nd+1)).flatMap fun d:Nat=>(List.range (if d=0 then 20 else 8)).map fun n:Nat=>(⟨lv,(d:Int) - 1,(n:Int)+1⟩:Pis)
theorem Jv {nd:Nat} {lv:Int} {x:Pis} (h1:1≤lv) (h8:lv≤8):x∈YI nd lv↔x.lv=lv∧pnE nd x=0:=by
 unfold YI
 rw [List.mem_flatMap,pn_ok]
 constructor
 ·rintro ⟨d,hd,hx⟩
  obtain ⟨n,hn,rfl⟩:=List.mem_map.1 hx
  have hd:=List.mem_range.1 hd
  have hn:=List.mem_range.1 hn
  refine ⟨rfl,h1,h8,by simp only; omega,?_,by simp only; omega,by simp only; omega⟩
  by_cases e:d=0
  ·subst e
   rw [if_pos rfl] at hn
   show ((n:Int)+1)≤if ((0:Nat):Int) - 1 = -1 then 20 else 8
   rw [if_pos (by omega)]
   omega
  ·rw [if_neg e] at hn
   show ((n:Int)+1)≤if (d:Int) - 1 = -1 then 20 else 8
   rw [if_neg (by omega)]
   omega
 ·rintro ⟨rfl,h2,h3,h4,h5,h6,h7⟩
  obtain ⟨d,hd⟩:∃ d:Nat,x.dv+1=d:=⟨(x.dv+1).toNat,by omega⟩
  obtain ⟨m,hm⟩:∃ m:Nat,x.nm - 1=m:=⟨(x.nm - 1).toNat,by omega⟩
  refine ⟨d,List.mem_range.2 (by omega),List.mem_map.2 ⟨m,List.mem_range.2 ?_,?_⟩⟩
  ·by_cases e:d=0
   ·rw [if_pos (by omega)] at h5
    rw [if_pos e]; omega
   ·rw [if_neg (by omega)] at h5
    rw [if_neg e]; omega
  ·exact Zlp rfl (by simp only; omega) (by simp only; omega)
theorem Zf1 (nd:Nat) (lv:Int):(YI nd lv).Pairwise fun a b=>lsB a b=true:=by
 unfold YI
 rw [List.pairwise_flatMap]
 refine ⟨fun d _=>?_,?_⟩
 ·rw [List.pairwise_map]
  refine List.Pairwise.imp ?_ List.pairwise_lt_range
  intro a b h
  rw [WP]
  exact .inr ⟨rfl,.inr ⟨rfl,by simp only; omega⟩⟩
 ·refine List.Pairwise.imp ?_ List.pairwise_lt_range
  intro d e h a ha b hb
  obtain ⟨m,_,rfl⟩:=List.mem_map.1 ha
  obtain ⟨n,_,rfl⟩:=List.mem_map.1 hb
  rw [WP]
  exact .inr ⟨rfl,.inl (by simp only; omega)⟩
def Ze6 (nd:Nat):List Pis:=(List.range 8).flatMap fun l:Nat=>YI nd ((l:Int)+1)
theorem Znm {nd:Nat} {x:Pis}:x∈Ze6 nd↔pnE nd x=0:=by
 unfold Ze6
 rw [List.mem_flatMap]
 constructor
 ·rintro ⟨l,hl,hx⟩
  have:=List.mem_range.1 hl
  exact ((Jv (by omega) (by omega)).1 hx).2
 ·intro h
  obtain ⟨h1,h2,_⟩:=pn_ok.1 h
  exact ⟨(x.lv - 1).toNat,List.mem_range.2 (by omega),(Jv (by omega) (by omega)).2 ⟨by omega,h⟩⟩
theorem Zf2 (nd:Nat):(Ze6 nd).Pairwise fun a b=>lsB a b=true:=by
 unfold Ze6
 rw [List.pairwise_flatMap]
 refine ⟨fun d _=>Zf1 nd _,?_⟩
 refine List.Pairwise.imp ?_ List.pairwise_lt_range
 intro d e h a ha b hb
 have h1:a.lv=(d:Int)+1:=by
  unfold YI at ha
  obtain ⟨_,_,ha⟩:=List.mem_flatMap.1 ha
  obtain ⟨_,_,rfl⟩:=List.mem_map.1 ha; rfl
 have h2:b.lv=(e:Int)+1:=by
  unfold YI at hb
  obtain ⟨_,_,hb⟩:=List.mem_flatMap.1 hb
  obtain ⟨_,_,rfl⟩:=List.mem_map.1 hb; rfl
 rw [WP]
 exact .inl (by omega)
theorem J0 : ∀ {a b:List Pis},(a.Pairwise fun x y=>lsB x y=true)→(b.Pairwise fun x y=>lsB x y=true)→(∀ x,x∈a↔x∈b)→a=b
  | [],[],_,_,_=>rfl
  | [],y::ys,_,_,h=>by have:=(h y).2 List.mem_cons_self; cases this
  | x::xs,[],_,_,h=>by have:=(h x).1 List.mem_cons_self; cases this
  | x::xs,y::ys,ha,hb,h=>by
    obtain ⟨ha1,ha2⟩:=List.pairwise_cons.1 ha
    obtain ⟨hb1,hb2⟩:=List.pairwise_cons.1 hb
    have e:x=y:=by
      rcases List.mem_cons.1 ((h x).1 List.mem_cons_self) with e | e
      · exact e
      · rcases List.mem_cons.1 ((h y).2 List.mem_cons_self) with e2 | e2
        · exact e2.symm
        · have:=Zic (hb1 x e) (ha1 y e2)
          rw [WQ] at this; cases this
    subst e
    congr 1
    refine J0 ha2 hb2 fun z=>⟨fun hz=>?_,fun hz=>?_⟩
    · rcases List.mem_cons.1 ((h z).1 (List.mem_cons_of_mem _ hz)) with e | e
      · subst e; have:=ha1 z hz; rw [WQ] at this; cases this
      · exact e
    · rcases List.mem_cons.1 ((h z).2 (List.mem_cons_of_mem _ hz)) with e | e
      · subst e; have:=hb1 z hz; rw [WQ] at this; cases this
      · exact e
theorem Zr4 {nd ns nc:Nat} {V:VL} {U:List Pis} {L:List (Pis × Rg)} (h:PR nd ns nc V U L) (q:Pis→Rg→Bool):(Ze6 nd).filter (fun x=>match XJ V x with | some r=>q x r | none=>false)=(L.filter fun p=>q p.1 p.2).map (·.1):=by
 refine J0 (List.Pairwise.filter _ (Zf2 nd)) ?_ fun x=>?_
 ·rw [List.pairwise_map]
  exact List.Pairwise.filter _ h.srt
 ·rw [List.mem_filter,Znm,List.mem_map]
  constructor
  ·rintro ⟨hx,hq⟩
   rw [h.kept hx] at hq
   cases hp:Yx L x with
   | none=>rw [hp] at hq; cases hq
   | some r =>
    rw [hp] at hq
    exact ⟨(x,r),List.mem_filter.2 ⟨(place_is h.srt).1 hp,hq⟩,rfl⟩
  ·rintro ⟨⟨y,r⟩,hm,rfl⟩
   obtain ⟨h1,h2⟩:=List.mem_filter.1 hm
   have hx:=(h.lok _ h1).1
   refine ⟨hx,?_⟩
   rw [h.kept hx,(place_is h.srt).2 h1]
   exact h2
theorem Zqr {α:Type} {a b:Option α} (h:∀ r,a=some r↔b=some r):a=b:=by
 cases a with
 | none =>
  cases b with
  | none=>rfl
  | some y=>exact absurd ((h y).2 rfl) (by simp)
 | some x=>exact ((h x).1 rfl).symm
theorem Zpf {l:List (Pis × Rg)} (h:Xt l) (x:Pis) (r:Rg) (z:Pis):Yx (VS l x r) z=if z=x then some r else Yx l z:=by
 refine Zqr fun q=>?_
 rw [place_is (JQ h x r),Ju h]
 by_cases e:z=x
 ·subst e
  rw [if_pos rfl]
  simp [Prod.mk.injEq,eq_comm]
 ·rw [if_neg e,place_is h]
  simp [e]
theorem Zlq {l:List (Pis × Rg)} (h:Xt l) (x:Pis) (z:Pis):Yx (forgetR l x) z=if z=x then none else Yx l z:=by
 refine Zqr fun q=>?_
 rw [place_is (WR h x),forget_mem]
 by_cases e:z=x
 ·subst e
  rw [if_pos rfl]
  simp
 ·rw [if_neg e,place_is h]
  simp [e]
theorem Za5 {room:Nat} {to:Int} {s:RS} (h:Xt s.2) (x:Pis):Xt (Y4 room to s x).1.2:=by
 unfold Y4
 split
 ·exact WR h _
 ·split
  ·exact h
  ·exact JQ h _ _
theorem Zf3 {room:Nat} {to:Int} {s:RS} (h:Xt s.2) {x z:Pis} (hz:atL x to≠z):Yx (Y4 room to s x).1.2 z=Yx s.2 z:=by
 unfold Y4
 split
 ·rw [Zlq h,if_neg (fun e=>hz e.symm)]
 ·split
  ·rfl
  ·rw [Zpf h,if_neg (fun e=>hz e.symm)]
theorem Zed {room:Nat} {to:Int}:∀ (xs:List Pis) (s:RS),Xt s.2→Xt (Y2 room to xs s).1.2
  | [],s,h=>h
  | x::xs,s,h=>by
    unfold Y2
    split
    · exact Zed xs _ (Za5 h x)
    · exact Za5 h x
theorem Zb4 {room:Nat} {to:Int} {z:Pis}:∀ (xs:List Pis) (s:RS),Xt s.2→(∀ x∈xs,atL x to≠z)→Yx (Y2 room to xs s).1.2 z=Yx s.2 z
  | [],s,_,_=>rfl
  | x::xs,s,h,hz=>by
    unfold Y2
    split
    · rw [Zb4 xs _ (Za5 h x) (fun y hy=>hz y (List.mem_cons_of_mem _ hy)),Zf3 h (hz x List.mem_cons_self)]
    · exact Zf3 h (hz x List.mem_cons_self)
theorem WF {room:Nat} {to:Int} (ys:List Pis):∀ (xs:List Pis) (s:RS),Y2 room to (xs++ys) s=if (Y2 room to xs s).2=0 then Y2 room to ys (Y2 room to xs s).1 else Y2 room to xs s
  | [],s=>by simp [Y2]
  | x::xs,s=>by
    have e:∀ zs,Y2 room to (x::zs) s=if (Y4 room to s x).2=0 then Y2 room to zs (Y4 room to s x).1 else Y4 room to s x:=fun zs=>rfl
    rw [List.cons_append,e,e]
    by_cases h:(Y4 room to s x).2=0
    · rw [if_pos h,if_pos h,WF ys xs]
    · rw [if_neg h,if_neg h,if_neg h]
theorem mid_kept {room:Nat} {to:Int} {xs ys:List Pis} {s:RS} (h:Xt s.2) (hn:((xs++ys).map fun x=>atL x to).Nodup) (h0:(Y2 room to xs s).2=0) (z:Pis) :
    Yx (Y2 room to xs s).1.2 z=Yx s.2 z∨Yx (Y2 room to xs s).1.2 z=Yx (Y2 room to (xs++ys) s).1.2 z:=by
  by_cases hz:z∈xs.map fun x=>atL x to
  · refine .inr ?_
    rw [WF,if_pos h0]
    rw [List.map_append,List.nodup_append] at hn
    refine (Zb4 ys _ (Zed xs s h) fun y hy e=>?_).symm
    exact hn.2.2 z hz (atL y to) (List.mem_map.2 ⟨y,hy,rfl⟩) e.symm
  · refine .inl (Zb4 xs s h fun x hx e=>hz (List.mem_map.2 ⟨x,hx,e⟩))
theorem Zqs {lv to:Int}:∀ {xs:List Pis},(∀ x∈xs,x.lv=lv)→xs.Nodup→(xs.map fun x=>atL x to).Nodup
  | [],_,_=>List.nodup_nil
  | x::xs,h,hn=>by
    obtain ⟨h1,h2⟩:=List.nodup_cons.1 hn
    rw [List.map_cons,List.nodup_cons]
    refine ⟨fun hm=>?_,Zqs (fun y hy=>h y (List.mem_cons_of_mem _ hy)) h2⟩
    obtain ⟨y,hy,e⟩:=List.mem_map.1 hm
    have e1:y.dv=x.dv:=by have:=congrArg Pis.dv (show atL y to=atL x to from e); exact this
    have e2:y.nm=x.nm:=by have:=congrArg Pis.nm (show atL y to=atL x to from e); exact this
    have e3:y=x:=Zlp (by rw [h y (List.mem_cons_of_mem _ hy),h x List.mem_cons_self]) e1 e2
    subst e3
    exact h1 hy
theorem Zpg {nd:Nat} {lv:Int}:(YI nd lv).Nodup:=(Zf1 nd lv).imp fun {a b} h e=>by subst e; rw [WQ] at h; cases h
theorem Zr5 {nd:Nat} {lv to:Int} (h1:1≤lv) (h8:lv≤8):((YI nd lv).map fun x=>atL x to).Nodup:=Zqs (fun x hx=>((Jv h1 h8).1 hx).1) Zpg
theorem pn_at {nd:Nat} {x:Pis} (h:pnE nd x=0) {to:Int} (h1:1≤to) (h8:to≤8):pnE nd (atL x to)=0:=by
 obtain ⟨a1,a2,a3,a4,a5,a6⟩:=pn_ok.1 h
 exact pn_ok.2 ⟨h1,h8,a3,a4,a5,a6⟩
end Go.Ps
namespace Go.Sn
open Go.Gv
open Go.RowKit
section
variable (d r p1 p2 p3 t:Nat) (c:Option Nat) (cc:Nat) (ka k0 sa ca:Option Addr)
end
section
variable {d r p1 p2 p3 t:Nat} {c:Option Nat} {cc:Nat} {ka k0 sa ca:Option Addr}
end
section
variable {d r p1 p2 p3 t:Nat} {c:Option Nat} {cc:Nat} {ka k0 sa ca:Option Addr} {ti ts tp tr:TypeId} {v:Value} {L:List HL}
theorem Zie {α:Type} {f:α→Nat} {l:List α} {m:Nat} (hm:m≤140737488355328) (h:(l.all fun x=>Nat.ble (f x) m)=true):∀ x∈l,f x≤140737488355328:=fun x hx=>Nat.le_trans (Nat.le_of_ble_eq_true (List.all_eq_true.1 h x hx)) hm
end
end Go.Sn
namespace Go.Sn
open Go.Gv
open Go.RowKit Go.Deep Go.ChangeShapes Go.WideShapes
section
variable {P:Program} {H:Type} {enc:TypeId × Value→H} {W:World} {base:Nat} {sp:Nat→Bool} {held:Bool}
theorem cells_at {a:Addr} {n:Nat} {cs:List Value} (h:W.cells? base a n=some cs):cs.length=n∧∀ i v,cs[i]? = some v→W.cell? (a.add i)=some v:=by
 obtain ⟨_,h1,h2⟩:=World.cells?_some h
 refine ⟨h1,fun i v hv=>?_⟩
 have hi:=(List.getElem?_eq_some_iff.1 hv).1
 rw [h2 i (by omega)]; exact hv
theorem len5 {cs:List Value} (h:cs.length=5):∃ u v q r s,cs=[u,v,q,r,s]:=by
 match cs,h with
 | [u,v,q,r,s],_=>exact ⟨u,v,q,r,s,rfl⟩
theorem Zb5 {e:TypeId}:∀ {l:List (DataW H)} {d:DataW H},d∈l→∀ b∈d.weights P e,b∈DataW.weightsAll P e l
  | y::l,d,hd,b,hb=>by
    rw [DataW.weightsAll]
    rcases List.mem_cons.1 hd with rfl | hd
    · exact List.mem_append_left _ hb
    · exact List.mem_append_right _ (Zb5 hd b hb)
  | [],d,hd,_,_=>by cases hd
theorem Za6 {α:Type} [Inhabited α] (f:α→List Value) (G:α→Prop) (sz T E bb:Nat) (hf:∀ x,(f x).length=sz) (hsz:0<sz) (hu:P.underlying T=some (.slice E)) (hc:P.cellsOf E=sz) (hB:P.bytesOf E=bb) (hbb:8≤bb) (hel:∀ (n:Nat) (cs:List Value) (x:DataW H × List MemPlace),DataW.trod enc P W base sp held n E cs=some x→(∀ b∈x.1.weights P E,b≤reachBytes)→∃ g:α,cs=f g∧G g) {n:Nat} {cs:List Value} {x:DataW H × List MemPlace} (h:DataW.trod enc P W base sp held n T cs=some x) (hw:∀ b∈x.1.weights P T,b≤reachBytes) :
    ∃ (a:Option Addr) (gs:List α) (cp:Nat),cs=[.slice a gs.length cp]∧OldSl W [] a gs.length sz (gs.flatMap f)∧gs.length≤140737488355328∧gs.length≤cp∧∀ g∈gs,G g:=by
  rcases open_slice hu h with ⟨rfl,rfl⟩ | ⟨a,len,cap,m,k,D,Pl,rfl,hb,hl,hm,hmm,rfl,hx⟩
  · exact ⟨none,[],0,rfl,⟨by simp,fun h=>absurd h (Nat.lt_irrefl 0),fun j v hv=>by simp at hv,fun h=>absurd h (Nat.lt_irrefl 0)⟩,Nat.zero_le _,Nat.zero_le _,by simp⟩
  · have hml:len≤m:=by rw [hmm]; split <;> omega
    rw [hc] at hx
    have hwt:∀ b∈DataW.weights P T (.slice ((List.range len).map D) ((List.range (m - len)).map fun j=>D (len+j))),b≤reachBytes:=hw
    rw [DataW.weights] at hwt
    simp only [hu] at hwt
    have hwD:∀ i,i<len→∀ b∈(D i).weights P E,b≤reachBytes:=fun i hi b hb =>
      hwt b (List.mem_cons_of_mem _ (List.mem_append_left _ (Zb5 (List.mem_map.2 ⟨i,List.mem_range.2 hi,rfl⟩) b hb)))
    have hone:∀ i,i<len→∃ g:α,(∀ j v,(f g)[j]? = some v→W.cell? ((a.add (i * sz)).add j)=some v)∧G g:=fun i hi=>by
      obtain ⟨cs',h1,h2⟩:=hx i (by omega)
      obtain ⟨g,rfl,h3⟩:=hel _ _ _ h2 (hwD i hi)
      exact ⟨g,(cells_at h1).2,h3⟩
    obtain ⟨g,hg⟩:=choose_lt (α:=α) (p:=fun i g=>(∀ j v,(f g)[j]? = some v→W.cell? ((a.add (i * sz)).add j)=some v)∧G g) hone
    refine ⟨some a,(List.range len).map g,cap,by simp,⟨by rw [Zly f sz hf],fun _=>rfl,fun j v hv=>?_,fun _=>by simp⟩,?_,by simp only [List.length_map,List.length_range]; omega,fun q hq=>?_⟩
    · have hj:j<((List.range len).map g).length * sz:=by
        have:=(List.getElem?_eq_some_iff.1 hv).1
        rwa [Zly f sz hf] at this
      simp only [List.length_map,List.length_range] at hj
      have hi:j / sz<len:=Nat.div_lt_of_lt_mul (by rw [Nat.mul_comm]; exact hj)
      have e:j=j / sz * sz+j % sz:=(Nat.div_add_mod' j sz).symm
      have hget:((List.range len).map g)[j / sz]? = some (g (j / sz)):=by simp [hi]
      have hv2:(f (g (j / sz)))[j % sz]? = some v:=by
        have hlt:j % sz<(f (g (j / sz))).length:=by rw [hf]; exact Nat.mod_lt _ hsz
        have h5:=Y0 f sz hf hget (j:=j % sz) (Nat.mod_lt _ hsz) (List.getElem?_eq_getElem hlt)
        rw [← e,hv] at h5
        rw [List.getElem?_eq_getElem hlt]
        exact h5.symm
      have:=(hg (j / sz) hi).1 (j % sz) v hv2
      rw [Gv.add_add,← e] at this
      exact this
    · have:=hwt _ List.mem_cons_self
      simp only [List.length_map,List.length_range] at this ⊢
      rw [hB] at this
      have:=reachBytes_lt
      have h9:(len+(m - len)) * 8≤(len+(m - len)) * bb:=Nat.mul_le_mul_left _ hbb
      omega
    · obtain ⟨i,hi,rfl⟩:=List.mem_map.1 hq
      exact (hg i (List.mem_range.1 hi)).2
end
def Hd.cells (h:Hd):List Value:=[.slice h.ka h.ks.length h.kc,.slice h.sa h.ss.length h.sc,.slice h.ca h.cs.length h.cc]
section
variable {P:Program} {H:Type} {enc:TypeId × Value→H} {W:World} {base:Nat} {sp:Nat→Bool} {held:Bool}
theorem fld {t:TypeId} {fs:Array Field} {n:Nat} {cs:List Value} {x:DataW H × List MemPlace} (ht:P.underlying t=some (.struct fs)) (h:DataW.trod enc P W base sp held n t cs=some x) (hw:∀ b∈x.1.weights P t,b≤reachBytes) :
    ∃ k,cs.length=P.cellsOf t∧∀ (i:Nat) (f:Field) (c:Nat),fs[i]? = some f→P.cellsOf f.type=c→∃ y,DataW.trod enc P W base sp held k f.type ((cs.drop f.offset).take c)=some y∧∀ b∈y.1.weights P f.type,b≤reachBytes:=by
  obtain ⟨xs,k,_,rfl,hl,hlen,hf⟩:=DataW.trod_struct ht h
  refine ⟨k,hl,fun i f c hi hc=>?_⟩
  have hlt:i<fs.size:=(Array.getElem?_eq_some_iff.1 hi).1
  have h1:=hf i f hi
  rw [hc,List.getElem?_eq_getElem (by omega)] at h1
  refine ⟨_,h1,fun b hb=>hw b ?_⟩
  show b∈DataW.weights P t (.agg _)
  rw [DataW.weights]
  simp only [ht]
  refine DataW.weights_mem_each (j:=i) (t:=f.type) ?_ ?_ b hb
  · simp [hi]
  · rw [List.getElem?_map,List.getElem?_eq_getElem (by omega)]; rfl
theorem WS {t:TypeId} {n:Nat} {v:Value} {x:DataW H × List MemPlace} (hu:P.underlying t=some (.int .i64)) (h:DataW.trod enc P W base sp held n t [v]=some x):∃ z:Int,v=.int .i64 z:=by
 obtain ⟨z,e,_⟩:=DataW.trod_int hu h
 exact ⟨z,by simpa using e⟩
theorem leafU8 {t:TypeId} {n:Nat} {v:Value} {x:DataW H × List MemPlace} (hu:P.underlying t=some (.int .u8)) (h:DataW.trod enc P W base sp held n t [v]=some x):∃ z:Nat,v=.int .u8 (z:Int)∧z<256:=by
 obtain ⟨z,e,_,hwf⟩:=DataW.trod_int hu h
 have hz:0≤z∧z<256:=by
  simp only [Lit.wf,Bool.and_eq_true,decide_eq_true_eq] at hwf
  have e1:IntKind.u8.min=0:=rfl
  have e2:IntKind.u8.max=255:=rfl
  omega
 refine ⟨z.toNat,?_,by omega⟩
 have e':v=.int .u8 z:=by simpa using e
 rw [e',show ((z.toNat:Nat):Int)=z by omega]
theorem leafB {t:TypeId} {n:Nat} {v:Value} {x:DataW H × List MemPlace} (hu:P.underlying t=some .bool) (h:DataW.trod enc P W base sp held n t [v]=some x):∃ z:Bool,v=.bool z:=by
 obtain ⟨z,e,_⟩:=DataW.trod_bool hu h
 exact ⟨z,by simpa using e⟩
theorem leafS {t:TypeId} {n:Nat} {v:Value} {x:DataW H × List MemPlace} (hu:P.underlying t=some .string) (h:DataW.trod enc P W base sp held n t [v]=some x) (hw:∀ b∈x.1.weights P t,b≤reachBytes):∃ z:ByteArray,v=.string z∧z.size≤140737488355328:=by
 obtain ⟨z,e,rfl,_⟩:=DataW.trod_string hu h
 refine ⟨z,by simpa using e,?_⟩
 have:=hw z.data.toList.length (by rw [DataW.weights]; exact List.mem_singleton.2 rfl)
 have e2:z.data.toList.length=z.size:=by rw [Array.length_toList]; rfl
 have:=reachBytes_lt
 omega
theorem len2 {cs:List Value} (h:cs.length=2):∃ a b,cs=[a,b]:=by
 match cs,h with
 | [a,b],_=>exact ⟨a,b,rfl⟩
theorem len3 {cs:List Value} (h:cs.length=3):∃ a b c,cs=[a,b,c]:=by
 match cs,h with
 | [a,b,c],_=>exact ⟨a,b,c,rfl⟩
theorem len4 {cs:List Value} (h:cs.length=4):∃ a b c d,cs=[a,b,c,d]:=by
 match cs,h with
 | [a,b,c,d],_=>exact ⟨a,b,c,d,rfl⟩
theorem len6 {cs:List Value} (h:cs.length=6):∃ a b c d e f,cs=[a,b,c,d,e,f]:=by
 match cs,h with
 | [a,b,c,d,e,f],_=>exact ⟨a,b,c,d,e,f,rfl⟩
theorem Znn {α:Type} (f:α→Value) (l:List α):l.flatMap (fun x=>[f x])=l.map f:=by
 induction l with
 | nil=>rfl
 | cons x l ih=>rw [List.flatMap_cons,ih]; rfl
end
end Go.Sn
namespace Go.Sn
open Go.Gv
open Go.RowKit
theorem Zr6 {l:List Int} {lo hi bad:Int} (h1:∀ z∈l,lo≤z∧z≤hi) (h2:l.Pairwise (· < ·)):WO l lo hi bad=0:=Zax fun j hj=>by
 have hm:l.getD j 0∈l:=by rw [List.getD_eq_getElem?_getD,List.getElem?_eq_getElem hj]; exact List.getElem_mem hj
 have h3:=h1 _ hm
 unfold XA
 rw [if_neg (by omega),if_neg]
 rintro ⟨h4,h5⟩
 have h6:=List.pairwise_iff_getElem.1 h2 (j - 1) j (by omega) hj (by omega)
 rw [List.getD_eq_getElem?_getD,List.getD_eq_getElem?_getD,List.getElem?_eq_getElem hj,List.getElem?_eq_getElem (show j - 1<l.length by omega)] at h5
 simp only [Option.getD_some] at h5
 omega
def HN.one (h:HN) (a:Option Addr) (c i:Nat):HN:={ h with sa:=a,sc:=c,ss:=[i] }
theorem HGood.one {s:Org} {h:HN} (hg:HGood s h) (a:Option Addr) (c:Nat) {i:Nat} (hi:i∈h.ss):HGood s (h.one a c i) :=
  ⟨hg.spec,hg.cx,by simp [HN.one],fun j hj=>by simp only [HN.one,List.mem_singleton] at hj; subst hj; exact hg.ssN j hi,hg.nr,hg.ns,hg.nc,hg.hk,hg.hc⟩
end Go.Sn
namespace Go.Ps
open Go.Gv
open Go.Sn
def Y9 (l:List Nat):List Int:=l.map fun n:Nat=>(n:Int)
theorem YA (l:List Nat):(Y9 l).length=l.length:=by unfold Y9; simp
theorem Zj4 {a b:List Nat} (h:Y9 a=Y9 b):a=b:=by
 have:=congrArg (List.map Int.toNat) h
 unfold Y9 at this
 rw [List.map_map,List.map_map] at this
 simpa [Function.comp_def] using this
def XB (ns nc:Nat) (ss cs:List Int):Int:=if WO ss 0 ((ns:Int) - 1) 4≠0 then WO ss 0 ((ns:Int) - 1) 4 else WO cs 0 ((nc:Int) - 1) 4
theorem Zno {l:List Int} {n:Nat} (h:WO l 0 ((n:Int) - 1) 4=0):∃ k:List Nat,l=Y9 k∧k.Pairwise (· < ·)∧∀ i∈k,i<n:=by
 obtain ⟨h1,h2⟩:=rise_mem (by decide) h
 refine ⟨l.map Int.toNat,?_,?_,fun i hi=>?_⟩
 ·unfold Y9
  rw [List.map_map]
  conv=>lhs; rw [← List.map_id l]
  apply List.map_congr_left
  intro z hz
  have:=h1 z hz
  simp only [id,Function.comp]
  omega
 ·rw [List.pairwise_map]
  refine List.Pairwise.imp_of_mem ?_ h2
  intro a b ha hb hab
  have:=h1 a ha
  have:=h1 b hb
  omega
 ·obtain ⟨z,hz,rfl⟩:=List.mem_map.1 hi
  have:=h1 z hz
  omega
theorem Ze7 {ns nc:Nat} {ss cs:List Int} (h:XB ns nc ss cs=0):∃ r:Rg,ss=Y9 r.1∧cs=Y9 r.2∧RgOk ns nc r:=by
 unfold XB at h
 split at h
 ·rename_i h1; exact absurd h h1
 ·rename_i h1
  obtain ⟨a,ha1,ha2,ha3⟩:=Zno (Classical.byContradiction fun e=>h1 e)
  obtain ⟨b,hb1,hb2,hb3⟩:=Zno h
  exact ⟨(a,b),ha1,hb1,⟨ha2,hb2,ha3,hb3⟩⟩
theorem Zqt {k:List Nat} {n:Nat} (h1:k.Pairwise (· < ·)) (h2:∀ i∈k,i<n):WO (Y9 k) 0 ((n:Int) - 1) 4=0:=by
 refine Zr6 (fun z hz=>?_) ?_
 ·unfold Y9 at hz
  obtain ⟨i,hi,rfl⟩:=List.mem_map.1 hz
  have:=h2 i hi
  omega
 ·unfold Y9
  rw [List.pairwise_map]
  exact h1.imp fun h=>by omega
theorem Zph {ns nc:Nat} {r:Rg} (h:RgOk ns nc r):XB ns nc (Y9 r.1) (Y9 r.2)=0:=by
 unfold XB
 rw [if_neg (by rw [Zqt h.s h.sn]; simp),Zqt h.c h.cn]
theorem hand_reg {s:Org} {h:Hd} (hs:(Yo s).2=0) (hk:h.ks.length=s.ds.length) (hn:∀ x∈h.ks,x.ks=[]):JJ s h=XB s.ss.length s.cs.length h.ss h.cs:=by
 have hf:Yt (fun i=>Xa (Ze2 s h i)) s.ds.length 0=none:=by
  refine XC _ _ _ fun j _ hj=>?_
  unfold Xa
  rw [if_pos]
  unfold Ze2
  have:(h.ks.getD j default).ks=[]:=by
   obtain ⟨x,hx⟩:=get_some (show j<h.ks.length by omega)
   rw [getD_some hx]; exact hn x (List.mem_of_getElem? hx)
  rw [this]
  exact Zax fun j hj=>absurd hj (by simp)
 unfold JJ
 rw [if_neg (by rw [hs]; simp),if_neg (by simp [hk]),hf]
 rfl
def Yd (s:Org) (x:Pis) (i:Nat):Bool:=decide (x.dv = -1) || decide ((s.ss.getD i default).div=x.dv)
def Ye (s:Org) (x:Pis) (i:Nat):Bool:=decide (x.dv = -1) || decide ((s.cs.getD i default).src=x.dv)
def Yz (s:Org) (x:Pis) (r:Rg):Rg:=(r.1.filter (Yd s x),r.2.filter (Ye s x))
def Xf (s:Org) (x:Pis) (k w:Rg):Rg:=(VX s.ss.length (Yd s x) k.1 w.1,VX s.cs.length (Ye s x) k.2 w.2)
theorem Za7 {s:Org} {ns nc:Nat} (x:Pis) {r:Rg} (h:RgOk ns nc r):RgOk ns nc (Yz s x r) :=
  ⟨List.Pairwise.filter _ h.s,List.Pairwise.filter _ h.c,fun i hi=>h.sn i (List.mem_filter.1 hi).1,fun i hi=>h.cn i (List.mem_filter.1 hi).1⟩
theorem Zb6 (s:Org) (x:Pis) (k w:Rg):RgOk s.ss.length s.cs.length (Xf s x k w) :=
  ⟨W8 _ _,W8 _ _,fun i hi=>List.mem_range.1 (List.mem_filter.1 hi).1,fun i hi=>List.mem_range.1 (List.mem_filter.1 hi).1⟩
theorem Ze8 {n:Nat} {f:Nat→Bool} {k w:List Nat} {i:Nat}:i∈VX n f k w↔i<n∧((f i=true∧i∈k)∨(f i=false∧i∈w)):=by
 unfold VX
 rw [List.mem_filter,List.mem_range]
 simp only [Bool.or_eq_true,Bool.and_eq_true,decide_eq_true_eq,Bool.not_eq_true']
theorem Zr7 {n:Nat} {f g:Nat→Bool} {a b c d:List Nat} (h:∀ i,i<n→(((f i=true∧i∈a)∨(f i=false∧i∈b))↔((g i=true∧i∈c)∨(g i=false∧i∈d)))):VX n f a b=VX n g c d :=
  Zgt (W8 _ _) (W8 _ _) fun i=>by
    rw [Ze8,Ze8]
    exact ⟨fun ⟨h1,h2⟩=>⟨h1,(h i h1).1 h2⟩,fun ⟨h1,h2⟩=>⟨h1,(h i h1).2 h2⟩⟩
theorem Zf4 {n:Nat} {f:Nat→Bool} {a w:List Nat}:VX n f a (VX n f a w)=VX n f a w :=
  Zr7 fun i hi=>by
    rw [Ze8]
    cases hf:f i <;> simp_all
theorem Zpj {off k i:Nat} {l g:List Nat} (hx:l[k]? = some i):packS g off (l.take (k+1))=orB off (packS g off (l.take k)) i:=by
 unfold packS
 rw [List.take_add_one,hx,List.foldl_append]; rfl
theorem Znr {off k i:Nat} {l g:List Nat} (hx:l[k]? = some i) {c:Nat} (hc:c=2 ^ (i % 8)):((packS g off (l.take k)).map u8V).set (off+i / 8) (u8V ((packS g off (l.take k)).getD (off+i / 8) 0 ||| c))=(packS g off (l.take (k+1))).map u8V:=by
 rw [Zpj hx,hc]
 unfold orB
 rw [List.map_set]
theorem Zqu (i:Nat):2 ^ (i % 8)<256:=by
 have h3:2 ^ (i % 8)<2 ^ 8:=Nat.pow_lt_pow_right (by decide) (Nat.mod_lt _ (by decide))
 exact h3
theorem getD_lt {g:List Nat} (h:∀ z∈g,z<256) (j:Nat):g.getD j 0<256:=by
 rw [List.getD_eq_getElem?_getD]
 cases e:g[j]? with
 | none=>simp
 | some x=>simpa using h x (List.mem_of_getElem? e)
theorem pk0_lt : ∀ z∈pk0,z<256:=by decide
theorem Zgu (x k:Nat):(x >>> k) &&& 1=1↔x.testBit k=true:=by
 unfold Nat.testBit
 rw [Nat.and_comm]
 have h:1 &&& (x >>> k)<2:=Nat.lt_of_le_of_lt Nat.and_le_left (by decide)
 simp
theorem unpS_t {b:List Nat} {off k:Nat} (h:JZ b off k=true):unpS b off (k+1)=unpS b off k++[k]:=by
 unfold unpS
 rw [List.range_succ,List.filter_append]
 simp [h]
theorem unpS_f {b:List Nat} {off k:Nat} (h:JZ b off k=false):unpS b off (k+1)=unpS b off k:=by
 unfold unpS
 rw [List.range_succ,List.filter_append]
 simp [h]
theorem Zns (b:List Nat) (off n:Nat):(unpS b off n).length≤n:=by
 unfold unpS
 exact Nat.le_trans (List.length_filter_le _ _) (by simp)
theorem Znt {b:List Nat} {off n:Nat}:∀ i∈unpS b off n,i<n:=fun i hi=>List.mem_range.1 (List.mem_filter.1 hi).1
theorem Zcu {l:List Nat} {k i:Nat} {f:Nat→Bool} (hx:l[k]? = some i) (h:f i=true):(l.take (k+1)).filter f=(l.take k).filter f++[i]:=by
 rw [List.take_add_one,hx,List.filter_append]
 simp [h]
theorem Zf5 {l:List Nat} {k i:Nat} {f:Nat→Bool} (hx:l[k]? = some i) (h:f i=false):(l.take (k+1)).filter f=(l.take k).filter f:=by
 rw [List.take_add_one,hx,List.filter_append]
 simp [h]
abbrev XQ (f:Nat→Bool) (i:Nat):Bool:=!f i
theorem Zcl {l:List Nat} (k:Nat) (f:Nat→Bool):((l.take k).filter f).length≤l.length:=Nat.le_trans (List.length_filter_le _ _) (by simp; omega)
theorem Zcm {l:List Nat} {k:Nat} (f:Nat→Bool) (h:l.length≤k):(l.take k).filter f=l.filter f:=by rw [List.take_of_length_le h]
theorem Zfa {s:Org} {x:Pis} {i:Nat} {t:St} (h:s.ss[i]? = some t):Yd s x i=(decide (x.dv = -1) || decide (t.div=x.dv)):=by
 unfold Yd
 rw [List.getD_eq_getElem?_getD,h]; rfl
theorem Zfb {s:Org} {x:Pis} {i:Nat} {t:Cp} (h:s.cs[i]? = some t):Ye s x i=(decide (x.dv = -1) || decide (t.src=x.dv)):=by
 unfold Ye
 rw [List.getD_eq_getElem?_getD,h]; rfl
abbrev XV (d:Nat):Nat:=if d=0 then 20 else 8
def J1 (d n:Nat):Nat:=if d=0 then n else 20+8 * (d - 1)+n
def Zf6 (lv:Int) (d:Nat):List Pis:=(List.range (XV d)).map fun n:Nat=>(⟨lv,(d:Int) - 1,(n:Int)+1⟩:Pis)
theorem Zj9 (lv:Int):YI 0 lv=Zf6 lv 0:=by unfold YI Zf6; simp [XV]
theorem Zka (nd:Nat) (lv:Int):YI (nd+1) lv=YI nd lv++Zf6 lv (nd+1):=by
 unfold YI Zf6
 rw [List.range_succ,List.flatMap_append]
 simp [XV]
theorem Ww (lv:Int):∀ nd,(YI nd lv).length=20+8 * nd
  | 0=>by rw [Zj9]; simp [Zf6,XV]
  | nd+1=>by rw [Zka,List.length_append,Ww lv nd]; simp [Zf6,XV]; omega
theorem Zqy {lv:Int} {d n:Nat} (h:n<XV d):(Zf6 lv d)[n]? = some ⟨lv,(d:Int) - 1,(n:Int)+1⟩:=by
 unfold Zf6
 rw [List.getElem?_map,List.getElem?_range h]; rfl
theorem Zgw {lv:Int} {d n:Nat}:∀ {nd:Nat},d≤nd→n<XV d→(YI nd lv)[J1 d n]? = some ⟨lv,(d:Int) - 1,(n:Int)+1⟩
  | 0,hd,hn=>by
    obtain rfl:d=0:=by omega
    rw [Zj9]
    exact Zqy hn
  | nd+1,hd,hn=>by
    rw [Zka]
    by_cases h:d=nd+1
    · subst h
      have e:J1 (nd+1) n=(YI nd lv).length+n:=by rw [Ww]; unfold J1; rw [if_neg (by omega)]; omega
      rw [e,List.getElem?_append_right (by omega),show (YI nd lv).length+n - (YI nd lv).length=n by omega]
      exact Zqy hn
    · rw [List.getElem?_append_left]
      · exact Zgw (by omega) hn
      · rw [Ww]
        unfold J1
        unfold XV at hn
        split
        · rename_i h0; rw [if_pos h0] at hn; omega
        · rename_i h0; rw [if_neg h0] at hn; omega
theorem Zfe (d n:Nat):J1 d (n+1)=J1 d n+1:=by unfold J1; split <;> omega
theorem Zff (d:Nat):J1 d (XV d)=J1 (d+1) 0:=by
 unfold J1 XV
 rw [if_neg (show ¬ d+1=0 by omega)]
 split
 ·rename_i h; subst h; rfl
 ·omega
theorem Znx {nd:Nat} (lv:Int):J1 (nd+1) 0=(YI nd lv).length:=by rw [Ww]; unfold J1; rw [if_neg (by omega)]; omega
theorem Zpn {room:Nat} {to:Int} {xs:List Pis} {s:RS} {i:Nat} {x:Pis} (hx:xs[i]? = some x) (h0:(Y2 room to (xs.take i) s).2=0):Y2 room to (xs.take (i+1)) s=Y4 room to (Y2 room to (xs.take i) s).1 x:=by
 have e:∀ s',Y2 room to [x] s'=Y4 room to s' x:=fun s'=>by
  show (if (Y4 room to s' x).2=0 then Y2 room to [] (Y4 room to s' x).1 else Y4 room to s' x)=_
  split
  ·rename_i h; show ((Y4 room to s' x).1,(0:Int))=_; rw [← h]
  ·rfl
 rw [List.take_add_one,hx,WF,if_pos h0]
 exact e _
theorem Zpo {room:Nat} {to:Int} {xs:List Pis} {s:RS} {i:Nat} (h:(Y2 room to (xs.take i) s).2≠0):Y2 room to xs s=Y2 room to (xs.take i) s:=by
 conv=>lhs; rw [← List.take_append_drop i xs]
 rw [WF,if_neg h]
def natR (ss cs:List Int):Rg:=(ss.map Int.toNat,cs.map Int.toNat)
theorem Zn0 (l:List Nat):(Y9 l).map Int.toNat=l:=by
 unfold Y9
 rw [List.map_map]
 conv=>rhs; rw [← List.map_id l]
 apply List.map_congr_left
 intro z _
 simp
theorem VC (r:Rg):natR (Y9 r.1) (Y9 r.2)=r:=by
 unfold natR; rw [Zn0,Zn0]
def Zfg (s:Org) (w:Rg) (x:Pis) (k:Rg):Bool:=decide ((Xf s x k w).1=w.1) && decide ((Xf s x k w).2=w.2)
def Wx (s:Org) (room:Nat) (t:RS) (x:Pis) (ss cs:List Int):RS × Int :=
  if pnE s.ds.length x≠0 then (t,pnE s.ds.length x) else if XB s.ss.length s.cs.length ss cs≠0 then (t,XB s.ss.length s.cs.length ss cs) else
  if Vt room t.1 x then (t,5) else ((Xc t.1 x,VS t.2 x (Yz s x (natR ss cs))),0)
def Wi (s:Org) (t:RS) (x:Pis):RS × Int :=
  if pnE s.ds.length x≠0 then (t,pnE s.ds.length x) else match Yx t.2 x with
  | none=>(t,4)
  | some _=>((t.1,forgetR t.2 x),0)
def Yp (s:Org) (t:RS) (x:Pis) (ss cs:List Int):Rg × Int :=
  if pnE s.ds.length x≠0 then (([],[]),pnE s.ds.length x) else if XB s.ss.length s.cs.length ss cs≠0 then (([],[]),XB s.ss.length s.cs.length ss cs) else
  match Yx t.2 x with
  | none=>(([],[]),4)
  | some k=>(Xf s x k (natR ss cs),0)
def XZ (s:Org) (room:Nat) (t:RS) (frm to:Int):RS × Int :=
  if frm<1∨8<frm∨to<1∨8<to then (t,7) else if frm=to then (t,0) else Y2 room to (YI s.ds.length frm) t
def Wn (s:Org) (t:RS) (ss cs:List Int):List Pis × Int :=
  if XB s.ss.length s.cs.length ss cs≠0 then ([],XB s.ss.length s.cs.length ss cs) else ((t.2.filter fun p=>Zfg s (natR ss cs) p.1 p.2).map (·.1),0)
end Go.Ps
namespace Go.Sn
open Go.Gv
open Go.RowKit
theorem Path.at {A:Cx}:∀ (n:Nat) {p q:Pl} {cs:List Nat},cs.length=n→Path A p cs q→∀ k,k<n→∃ (i:Nat) (a b:Pl),cs[k]? = some i∧Path A p (cs.take k) a∧i∈A.dr∧A.nx (cs.take k) a i=true∧A.tgt i a=some b∧Path A p (cs.take (k+1)) b
  | 0,_,_,_,_,_,k,hk=>absurd hk (Nat.not_lt_zero k)
  | n+1,p,q,cs,hn,h,k,hk=>by
    have hne:cs≠[]:=fun e=>by simp [e] at hn
    have e:=(List.dropLast_concat_getLast hne).symm
    have hdl:cs.dropLast.length=n:=by simp [hn]
    obtain ⟨q1,a1,a2,a3,a4⟩:=h.snoc e
    rcases Nat.lt_or_ge k n with hk2 | hk2
    · obtain ⟨i,a,b,b1,b2,b3,b4,b5,b6⟩:=Path.at n hdl a1 k hk2
      have t1:cs.take k=cs.dropLast.take k:=by rw [e,List.take_append_of_le_length (by omega),← e]
      have t2:cs.take (k+1)=cs.dropLast.take (k+1):=by rw [e,List.take_append_of_le_length (by omega),← e]
      refine ⟨i,a,b,?_,by rw [t1]; exact b2,b3,by rw [t1]; exact b4,b5,by rw [t2]; exact b6⟩
      rw [e,List.getElem?_append_left (by omega)]; exact b1
    · have:k=n:=by omega
      subst this
      have t1:cs.take k=cs.dropLast:=by rw [e,List.take_append_of_le_length (by omega),← e]; exact List.take_of_length_le (by omega)
      refine ⟨cs.getLast hne,q1,q,?_,by rw [t1]; exact a1,a2,by rw [t1]; exact a3,a4,by rw [List.take_of_length_le (by omega)]; exact h⟩
      have h9:(cs.dropLast++[cs.getLast hne])[k]? = some (cs.getLast hne):=by rw [List.getElem?_append_right (by omega),hdl,Nat.sub_self]; rfl
      rwa [← e] at h9
theorem Path.start {A:Cx}:∀ (n:Nat) {p q:Pl} {cs:List Nat},cs.length=n→Path A p cs q→p.2∈A.kd p.1
  | 0,p,q,cs,hn,h=>by
    have e:cs=[]:=List.length_eq_zero_iff.1 hn
    have:=h.nil e
    rw [this.1]; exact this.2
  | n+1,p,q,cs,hn,h=>by
    have hne:cs≠[]:=fun e=>by simp [e] at hn
    obtain ⟨q1,a1,_,_,_⟩:=h.snoc (List.dropLast_concat_getLast hne).symm
    exact Path.start n (by simp [hn]) a1
structure RsnOk (s:Org) (h:HN) (u:Rsn) (r0 p0:Int):Prop where
  stop:u.i∈h.ss
  div:(stA s u.i).div=u.d
  plays:playsZ (stA s u.i) u.n r0 p0=true
  path:Path (cxN s h) (u.d0,u.k0) u.ch (u.d,u.n)
  len:u.ch.length≤1000
section
variable {s:Org} {h:HN} {r0 p0:Int}
end
def putG : Bool→List Nat→Nat→List Nat
  | d,[],n=>if d then [] else [n]
  | d,x::l,n=>if d=false∧n<x then n::x::putG true l n else x::putG d l n
def putP (l:List Nat) (n:Nat):List Nat:=putG (decide (n∈l)) l n
theorem Path.mono {A B:Cx} (hd:A.ds=B.ds) (hc:A.cs=B.cs) (hr:∀ i∈A.dr,i∈B.dr) (hk:∀ d,∀ k∈A.kd d,k∈B.kd d) (hs:∀ i∈A.dr,∀ q∈A.start i,q∈B.start i):∀ {p q:Pl} {cs:List Nat},Path A p cs q→Path B p cs q:=by
 intro p q cs h
 have hcp:∀ i,A.cp i=B.cp i:=fun i=>by unfold Cx.cp; rw [hc]
 have hdv:∀ d,A.dv d=B.dv d:=fun d=>by unfold Cx.dv; rw [hd]
 induction h with
 | played h=>exact .played (hk _ _ h)
 | step h1 h2 h3 h4 ih =>
  refine .step ih (hr _ h2) ?_ ?_
  ·unfold Cx.nx at h3 ⊢
   split
   ·rename_i e
    rw [if_pos e] at h3
    exact decide_eq_true (hs _ h2 _ (of_decide_eq_true h3))
   ·rename_i e
    rw [if_neg e] at h3
    unfold Cx.goes at h3 ⊢
    rw [← hcp]; exact h3
  ·unfold Cx.tgt at h4 ⊢
   rw [← hcp,← hdv]; exact h4
theorem keysP_mem {s:Org} {h:HN} (hA:(cxN s h).Ok) {d n:Nat}:n∈(keysP s h).getD d []↔d<s.ds.length∧n<128∧∃ p cs,Path (cxN s h) p cs (d,n):=by
 unfold keysP keysT
 rw [List.getD_eq_getElem?_getD,List.getElem?_map]
 rcases Nat.lt_or_ge d s.ds.length with hd | hd
 ·rw [range_at hd]
  simp only [Option.map_some,Option.getD_some]
  unfold rowK
  rw [List.mem_filter,List.mem_range]
  constructor
  ·rintro ⟨h1,h2⟩
   obtain ⟨v,hv⟩:=Option.isSome_iff_exists.1 h2
   exact ⟨hd,h1,_,_,((Zhe hA).best _ _ hv).1⟩
  ·rintro ⟨_,h1,p,cs,hp⟩
   obtain ⟨v,hv⟩:=(Zhe hA).all _ _ _ hp
   exact ⟨h1,by rw [hv]; rfl⟩
 ·rw [List.getElem?_eq_none (by simpa using hd)]
  simp only [Option.map_none,Option.getD_none,List.not_mem_nil,false_iff]
  rintro ⟨h1,_⟩; omega
def HN.stop (h:HN) (a:Option Addr) (c j:Nat):HN:={ h with sa:=a,sc:=c,ss:=putP h.ss j }
section
variable {T:Tab} {i0:Nat} {x:St} {r0 p0:Int} {b:Option Rsn} {d n:Nat}
end
end Go.Sn
namespace Go.Sn
open Go.Gv
open Go.RowKit Go.Deep Go.ChangeShapes Go.WideShapes
section
variable {P:Program} {H:Type} {enc:TypeId × Value→H} {W:World} {base:Nat} {sp:Nat→Bool} {held:Bool}
end
end Go.Sn
namespace Go.Ps
open Go.Gv
open Go.Sn
structure KE where
  x:Pis
  a1:Option Addr
  c1:Nat
  a2:Option Addr
  c2:Nat
  r:Rg
  deriving Inhabited
abbrev KE.pr (e:KE):Pis × Rg:=(e.x,e.r)
abbrev prs (l:List KE):List (Pis × Rg):=l.map KE.pr
def kstep (e:KE) (s:List KE × Bool) (p:KE):List KE × Bool :=
  let s1:=if !s.2 && !lsB p.x e.x then (s.1++[e],true) else s
  (if p.x=e.x then s1.1 else s1.1++[p],s1.2)
def kfold (l:List KE) (e:KE):List KE × Bool:=l.foldl (kstep e) ([],false)
def W9 (l:List KE) (e:KE):List KE:=if (kfold l e).2 then (kfold l e).1 else (kfold l e).1++[e]
def XH (l:List KE) (x:Pis):List KE:=l.filter fun p=>decide (p.x≠x)
theorem kstep_pr (e p:KE) (s:List KE × Bool):(prs (kstep e s p).1,(kstep e s p).2)=JP e.x e.r (prs s.1,s.2) p.pr:=by
 unfold kstep JP
 cases h:(!s.2 && !lsB p.x e.x) <;> by_cases h2:p.x=e.x <;> simp [h,h2,prs]
theorem Zn4 (e:KE):∀ (l:List KE) (s:List KE × Bool),(prs (l.foldl (kstep e) s).1,(l.foldl (kstep e) s).2)=(prs l).foldl (JP e.x e.r) (prs s.1,s.2)
  | [],s=>rfl
  | p::l,s=>by
    show (prs (l.foldl (kstep e) (kstep e s p)).1,_)=_
    rw [List.foldl_cons,Zn4 e l,kstep_pr]
    rfl
theorem Zij (l:List KE) (e:KE):prs (W9 l e)=VS (prs l) e.x e.r:=by
 have h:=Zn4 e l ([],false)
 unfold W9 VS kfold
 obtain ⟨h1,h2⟩:=Prod.mk.inj h
 have e0:((prs l).foldl (JP e.x e.r) (prs ([]:List KE),false))=((prs l).foldl (JP e.x e.r) ([],false)):=rfl
 rw [e0] at h1 h2
 simp only
 rw [← h1,← h2]
 split
 ·rfl
 ·simp [prs]
theorem kstep_mem {e p q:KE} {s:List KE × Bool} (h:p∈(kstep e s q).1):p∈s.1∨p=e∨p=q:=by
 have h1:∀ {s1:List KE},p∈(if q.x=e.x then s1 else s1++[q])→p∈s1∨p=q:=fun {s1} h=>by
  split at h
  ·exact .inl h
  ·rcases List.mem_append.1 h with h | h
   ·exact .inl h
   ·exact .inr (by simpa using h)
 rcases h1 (show p∈(if q.x=e.x then (if !s.2 && !lsB q.x e.x then (s.1++[e],true) else s).1 else (if !s.2 && !lsB q.x e.x then (s.1++[e],true) else s).1++[q]) from h) with h | h
 ·split at h
  ·rcases List.mem_append.1 h with h | h
   ·exact .inl h
   ·exact .inr (.inl (by simpa using h))
  ·exact .inl h
 ·exact .inr (.inr h)
theorem kfold_mem (e:KE):∀ (l:List KE) (s:List KE × Bool),∀ p∈(l.foldl (kstep e) s).1,p∈s.1∨p=e∨p∈l
  | [],s,p,hp=>.inl hp
  | q::l,s,p,hp=>by
    rcases kfold_mem e l _ p hp with h | h | h
    · rcases kstep_mem h with h | h | h
      · exact .inl h
      · exact .inr (.inl h)
      · exact .inr (.inr (by rw [h]; exact List.mem_cons_self))
    · exact .inr (.inl h)
    · exact .inr (.inr (List.mem_cons_of_mem _ h))
theorem keepK_mem {l:List KE} {e p:KE} (hp:p∈W9 l e):p=e∨p∈l:=by
 unfold W9 at hp
 have hf:∀ p∈(kfold l e).1,p=e∨p∈l:=fun p hp=>(kfold_mem e l _ p hp).resolve_left (by simp)
 split at hp
 ·exact hf p hp
 ·rcases List.mem_append.1 hp with h | h
  ·exact hf p h
  ·exact .inl (by simpa using h)
theorem Zkd (e:KE):∀ (l:List KE) (s:List KE × Bool),(l.foldl (kstep e) s).1.length≤s.1.length+l.length+1∧(s.2=true→(l.foldl (kstep e) s).1.length≤s.1.length+l.length∧(l.foldl (kstep e) s).2=true)∧((l.foldl (kstep e) s).2=false→(l.foldl (kstep e) s).1.length≤s.1.length+l.length)
  | [],s=>⟨by simp,fun h=>⟨by simp,h⟩,fun _=>by simp⟩
  | p::l,s=>by
    obtain ⟨h1,h2,h3⟩:=Zkd e l (kstep e s p)
    rw [List.foldl_cons]
    have hs:(kstep e s p).1.length≤s.1.length+2∧(s.2=true→(kstep e s p).1.length≤s.1.length+1∧(kstep e s p).2=true)∧((kstep e s p).2=false→(kstep e s p).1.length≤s.1.length+1):=by
      unfold kstep
      cases h:s.2 <;> cases h4:lsB p.x e.x <;> by_cases h5:p.x=e.x <;> simp [h4,h5,h]
    obtain ⟨g1,g2,g3⟩:=hs
    have hl:(p::l).length=l.length+1:=rfl
    refine ⟨?_,fun h=>⟨?_,(h2 (g2 h).2).2⟩,fun h=>?_⟩
    · cases hb:(kstep e s p).2 with
      | false=>have:=g3 hb; omega
      | true=>have:=(h2 hb).1; omega
    · have a1:=g2 h
      have a2:=(h2 a1.2).1
      omega
    · have a1:=h3 h
      have:(kstep e s p).2=false:=by
        cases hb:(kstep e s p).2 with
        | false=>rfl
        | true=>rw [(h2 hb).2] at h; cases h
      have:=g3 this
      omega
theorem Zaj {l:List KE} {k:Nat} {p:KE} (e:KE) (hx:l[k]? = some p):kfold (l.take (k+1)) e=kstep e (kfold (l.take k) e) p:=by
 unfold kfold
 rw [List.take_add_one,hx]; simp
theorem Zda (l:List KE) (x:Pis):prs (XH l x)=forgetR (prs l) x:=by
 unfold XH forgetR prs
 rw [List.filter_map]
 rfl
theorem Zik {l:List KE} {k:Nat} {p:KE} (x:Pis) (hx:l[k]? = some p):XH (l.take (k+1)) x=if p.x=x then XH (l.take k) x else XH (l.take k) x++[p]:=by
 unfold XH
 rw [List.take_add_one,hx]
 by_cases h:p.x=x <;> simp [h]
theorem Zn5 (l:List KE) (x:Pis):(XH l x).length≤l.length:=List.length_filter_le _ _
theorem Zn6 {l:List KE} {x:Pis} {p:KE} (h:p∈XH l x):p∈l:=(List.mem_filter.1 h).1
theorem Zn7 {l:List KE} {x:Pis} {k:Nat} {p:KE} (hall:∀ j,j<k→∀ q,l[j]? = some q→q.x≠x) (hx:l[k]? = some p) (he:p.x=x):Yx (prs l) x=some p.r:=by
 unfold Yx
 induction l generalizing k with
 | nil=>cases hx
 | cons a l ih =>
  cases k with
  | zero =>
   obtain rfl:a=p:=by simpa using hx
   simp [prs,he]
  | succ k =>
   have h0:a.x≠x:=hall 0 (Nat.succ_pos k) a rfl
   have:=ih (k:=k) (fun j hj q hq=>hall (j+1) (by omega) q hq) hx
   simpa [prs,h0] using this
theorem Zn8 {l:List KE} {x:Pis} (hall:∀ (j:Nat) (q:KE),l[j]? = some q→q.x≠x):Yx (prs l) x=none:=by
 unfold Yx
 rw [Option.map_eq_none_iff,List.find?_eq_none]
 intro q hq
 obtain ⟨p,hp,rfl⟩:=List.mem_map.1 hq
 obtain ⟨j,hj⟩:=List.getElem?_of_mem hp
 simpa using hall j p hj
def WI (d n:Nat):Nat:=J1 d (min n (XV d))
theorem Zke (d:Nat):WI d 0=J1 d 0:=by unfold WI; rw [Nat.zero_min]
theorem Zgx {d n:Nat} (h:n<XV d):WI d (n+1)=WI d n+1∧WI d n=J1 d n:=by
 unfold WI
 rw [Nat.min_eq_left (by omega),Nat.min_eq_left (by omega),Zfe]
 exact ⟨rfl,rfl⟩
theorem cntB_out {d n:Nat} (h:XV d≤n):WI d (n+1)=WI d n:=by
 unfold WI
 rw [Nat.min_eq_right (by omega),Nat.min_eq_right (by omega)]
theorem cntB_end (d:Nat):WI d 20=J1 (d+1) 0:=by
 unfold WI
 rw [Nat.min_eq_right (by unfold XV; split <;> omega),Zff]
theorem Zkf {d n:Nat} {nd:Nat} {lv:Int} (hd:d≤nd) (hn:n<XV d):(YI nd lv).take (J1 d n+1)=(YI nd lv).take (J1 d n)++[⟨lv,(d:Int) - 1,(n:Int)+1⟩]:=by
 rw [List.take_add_one,Zgw hd hn]; rfl
theorem Zq2 {l:List KE} {k:Nat} {p:KE} (f:Pis→Rg→Bool) (hx:l[k]? = some p):((prs (l.take (k+1))).filter fun q=>f q.1 q.2).map (·.1)=((prs (l.take k)).filter fun q=>f q.1 q.2).map (·.1)++(if f p.x p.r then [p.x] else []):=by
 unfold prs
 rw [List.take_add_one,hx]
 cases h:f p.x p.r <;> simp [h]
structure RfP (nd ns nc room:Nat) (U:List Pis) (L:List (Pis × Rg)):Prop where
  hnd:nd≤6
  hns:ns≤80
  hnc:nc≤24
  srt:Xt L
  lok:∀ p∈L,pnE nd p.1=0∧RgOk ns nc p.2
  full:U.length+1≤room
  hroom:room≤1000
theorem allA_len (nd:Nat):(Ze6 nd).length=8 * (20+8 * nd):=by
 unfold Ze6
 rw [List.length_flatMap]
 have:∀ n,((List.range n).map fun l:Nat=>(YI nd ((l:Int)+1)).length).sum=n * (20+8 * nd):=fun n=>by
  induction n with
  | zero=>simp
  | succ n ih=>rw [List.range_succ,List.map_append,List.sum_append,ih]; simp [Ww,Nat.add_mul]
 exact this 8
theorem Zps {nd:Nat} (hn:nd≤6) {L:List (Pis × Rg)} (hs:Xt L) (hok:∀ p∈L,pnE nd p.1=0):L.length≤544:=by
 have e:(Ze6 nd).filter (fun x=>decide (x∈L.map (·.1)))=L.map (·.1):=by
  refine J0 (List.Pairwise.filter _ (Zf2 nd)) ?_ fun x=>?_
  ·rw [List.pairwise_map]; exact hs
  ·rw [List.mem_filter,Znm]
   simp only [decide_eq_true_eq]
   refine ⟨fun h=>h.2,fun h=>⟨?_,h⟩⟩
   obtain ⟨p,hp,rfl⟩:=List.mem_map.1 h
   exact hok p hp
 have h2:=List.length_filter_le (fun x=>decide (x∈L.map (·.1))) (Ze6 nd)
 rw [e,allA_len,List.length_map] at h2
 omega
section
variable {nd ns nc room:Nat} {U:List Pis} {L:List (Pis × Rg)}
theorem RfP.len (h:RfP nd ns nc room U L):L.length≤544:=Zps h.hnd h.srt fun p hp=>(h.lok p hp).1
theorem RfP.used (h:RfP nd ns nc room U L) {x:Pis} (hf:¬ Vt room U x):RfP nd ns nc room (Xc U x) L:=by
 refine ⟨h.hnd,h.hns,h.hnc,h.srt,h.lok,?_,h.hroom⟩
 unfold Xc
 split
 ·exact h.full
 ·rename_i hx
  rw [List.length_append]
  have:¬ room≤U.length+1:=fun hr=>hf ⟨hx,hr⟩
  simp; omega
theorem RfP.keep (h:RfP nd ns nc room U L) {x:Pis} (hx:pnE nd x=0) {r:Rg} (hr:RgOk ns nc r):RfP nd ns nc room U (VS L x r):=by
 refine ⟨h.hnd,h.hns,h.hnc,JQ h.srt x r,fun p hp=>?_,h.full,h.hroom⟩
 rcases (Ju h.srt).1 hp with rfl | ⟨h1,_⟩
 ·exact ⟨hx,hr⟩
 ·exact h.lok p h1
theorem RfP.forget (h:RfP nd ns nc room U L) (x:Pis):RfP nd ns nc room U (forgetR L x) :=
  ⟨h.hnd,h.hns,h.hnc,WR h.srt x,fun p hp=>h.lok p (forget_mem.1 hp).1,h.full,h.hroom⟩
theorem RfP.place (h:RfP nd ns nc room U L) {x:Pis} {r:Rg} (hp:Yx L x=some r):RgOk ns nc r:=(h.lok _ ((place_is h.srt).1 hp)).2
theorem RfP.start (hnd:nd≤6) (hns:ns≤80) (hnc:nc≤24) (h1:1≤room) (hroom:room≤1000):RfP nd ns nc room [] []:=⟨hnd,hns,hnc,List.Pairwise.nil,fun p hp=>(List.not_mem_nil hp).elim,h1,hroom⟩
end
def Mid (nd:Nat) (a b t:List (Pis × Rg)):Prop:=∀ z,pnE nd z=0→Yx t z=Yx a z∨Yx t z=Yx b z
theorem Mid.left (nd:Nat) (a b:List (Pis × Rg)):Mid nd a b a:=fun z _=>.inl rfl
theorem Mid.right (nd:Nat) (a b:List (Pis × Rg)):Mid nd a b b:=fun z _=>.inr rfl
theorem Zn9 {nd room i:Nat} {frm to:Int} {t t1:RS} (h1:1≤frm) (h8:frm≤8) (hne:frm≠to) (ht:1≤to) (ht8:to≤8) (hs:Xt t.2) (h0:Y2 room to ((YI nd frm).take i) t=(t1,0)) {s:Org} (hd:s.ds.length=nd):Mid nd t.2 (XZ s room t frm to).1.2 t1.2:=fun z _=>by
 have h:=mid_kept (room:=room) (to:=to) (xs:=(YI nd frm).take i) (ys:=(YI nd frm).drop i) hs (by rw [List.take_append_drop]; exact Zr5 h1 h8) (by rw [h0]) z
 rw [List.take_append_drop,h0] at h
 unfold XZ
 rw [if_neg (by omega),if_neg hne,hd]
 exact h
section
variable {s:Org} {room:Nat} {U:List Pis} {L:List (Pis × Rg)} {x:Pis} {r:Rg}
end
structure Tri (s:Org) (g a b:Pis):Prop where
  g0:pnE s.ds.length g=0
  a0:pnE s.ds.length a=0
  b0:pnE s.ds.length b=0
  gl:g.lv=1
  al:a.lv=2
  bl:b.lv=3
  gd:g.dv = -1
  ad:0≤a.dv
  bd:0≤b.dv
section
variable {s:Org} {g a b:Pis} {r t w:Rg}
theorem Zoa (h:g.dv = -1) (i:Nat):Yd s g i=true∧Ye s g i=true:=by
 unfold Yd Ye; rw [h]; simp
theorem Tri.within (h:Tri s g a b) (r:Rg):Yz s g r=r:=by
 have h1:r.1.filter (Yd s g)=r.1:=List.filter_eq_self.2 fun i _=>(Zoa h.gd i).1
 have h2:r.2.filter (Ye s g)=r.2:=List.filter_eq_self.2 fun i _=>(Zoa h.gd i).2
 unfold Yz
 rw [h1,h2]
theorem Tri.sorted (h:Tri s g a b):lsB g a=true∧lsB g b=true∧lsB a b=true :=
  ⟨(WP _ _).2 (.inl (by have:=h.gl; have:=h.al; omega)),(WP _ _).2 (.inl (by have:=h.gl; have:=h.bl; omega)),(WP _ _).2 (.inl (by have:=h.al; have:=h.bl; omega))⟩
theorem Tri.ne (h:Tri s g a b):g≠a∧g≠b∧a≠b :=
  ⟨fun e=>by have:=h.gl; have:=h.al; subst e; omega,fun e=>by have:=h.gl; have:=h.bl; subst e; omega,fun e=>by have:=h.al; have:=h.bl; subst e; omega⟩
def tri3 (s:Org) (g a b:Pis) (r t:Rg):RS:=([g,a,b],[(g,r),(a,Yz s a r),(b,Yz s b t)])
theorem Tri.place (h:Tri s g a b) (r t:Rg):Yx (tri3 s g a b r t).2 g=some r∧Yx (tri3 s g a b r t).2 a=some (Yz s a r)∧Yx (tri3 s g a b r t).2 b=some (Yz s b t):=by
 obtain ⟨h1,h2,h3⟩:=h.ne
 unfold Yx tri3
 simp [h1,h2,h3]
theorem Zls (k w:Rg):Xf s a k (Xf s a k w)=Xf s a k w:=by
 unfold Xf
 rw [Zf4,Zf4]
theorem Tri.lit (h:Tri s g a b) (w:Rg):a∈((tri3 s g a b r t).2.filter fun p=>Zfg s (Xf s a (Yz s a r) w) p.1 p.2).map (·.1):=by
 refine List.mem_map.2 ⟨(a,Yz s a r),List.mem_filter.2 ⟨by simp [tri3],?_⟩,rfl⟩
 unfold Zfg
 rw [Zls]
 simp
end
theorem Zob (l:List KE) (e:KE):(kfold l e).1.length≤l.length+1:=by
 have h:=(Zkd e l ([],false)).1
 unfold kfold
 simpa using h
theorem used_in {U:List Pis} {x:Pis} (h:x∈U):Xc U x=U:=by unfold Xc; rw [if_pos h]
theorem used_no {U:List Pis} {x:Pis} (h:x ∉ U):Xc U x=U++[x]:=by unfold Xc; rw [if_neg h]
theorem kstep_ff {e p:KE} {s:List KE} (h:lsB p.x e.x=false) (h2:p.x≠e.x):kstep e (s,false) p=(s++[e]++[p],true):=by
 unfold kstep; simp [h,h2]
theorem kstep_fe {e p:KE} {s:List KE} (h:lsB p.x e.x=false) (h2:p.x=e.x):kstep e (s,false) p=(s++[e],true):=by
 unfold kstep; rw [h]; simp only [if_pos h2]; rfl
theorem kstep_lf {e p:KE} {s:List KE} (h:lsB p.x e.x=true) (h2:p.x≠e.x):kstep e (s,false) p=(s++[p],false):=by
 unfold kstep; simp [h,h2]
theorem kstep_le {e p:KE} {s:List KE} (h:lsB p.x e.x=true) (h2:p.x=e.x):kstep e (s,false) p=(s,false):=by
 unfold kstep; rw [h2,WQ] at h; cases h
theorem kstep_tf {e p:KE} {s:List KE} (h2:p.x≠e.x):kstep e (s,true) p=(s++[p],true):=by
 unfold kstep; simp [h2]
theorem kstep_te {e p:KE} {s:List KE} (h2:p.x=e.x):kstep e (s,true) p=(s,true):=by
 unfold kstep; simp [h2]
theorem Jw {room:Nat} {to:Int} {xs:List Pis} {x:Pis} {s s1 s2:RS} (h:Y2 room to xs s=(s1,0)) (h2:Y4 room to s1 x=(s2,0)):Y2 room to (xs++[x]) s=(s2,0):=by
 rw [WF,h,if_pos rfl]
 show (if (Y4 room to s1 x).2=0 then Y2 room to [] (Y4 room to s1 x).1 else Y4 room to s1 x)=_
 rw [h2,if_pos rfl]
 rfl
theorem Zpt {room:Nat} {to:Int} {xs ys:List Pis} {x:Pis} {s s1 s2:RS} {e:Int} (h:Y2 room to xs s=(s1,0)) (h2:Y4 room to s1 x=(s2,e)) (he:e≠0):Y2 room to (xs++x::ys) s=(s2,e):=by
 rw [WF,h,if_pos rfl]
 show (if (Y4 room to s1 x).2=0 then Y2 room to ys (Y4 room to s1 x).1 else Y4 room to s1 x)=_
 rw [h2,if_neg he]
theorem Zin {room:Nat} {to:Int} {s:RS} {x:Pis} (h:s.1.length+1≤room):(Y4 room to s x).1.1.length+1≤room:=by
 unfold Y4
 split
 ·exact h
 ·split
  ·exact h
  ·rename_i hf
   show (Xc s.1 (atL x to)).length+1≤room
   unfold Xc
   split
   ·exact h
   ·rename_i hx
    have:¬ room≤s.1.length+1:=fun hr=>hf ⟨hx,hr⟩
    rw [List.length_append]
    simp; omega
theorem Zdc {room:Nat} {to:Int}:∀ (xs:List Pis) (s:RS),s.1.length+1≤room→(Y2 room to xs s).1.1.length+1≤room
  | [],s,h=>h
  | x::xs,s,h=>by
    unfold Y2
    split
    · exact Zdc xs _ (Zin h)
    · exact Zin h
theorem split_at {α:Type} {l:List α} {k:Nat} {x:α} (h:l[k]? = some x):l=l.take k++x::l.drop (k+1):=by
 obtain ⟨hk,rfl⟩:=List.getElem?_eq_some_iff.1 h
 rw [← List.drop_eq_getElem_cons hk,List.take_append_drop]
theorem prs_map (l:List KE):(prs l).map (·.1)=l.map KE.x:=by simp [prs]
theorem map_at {l:List KE} {k:Nat} {e:KE} (h:l[k]? = some e):(l.take (k+1)).map KE.x=(l.take k).map KE.x++[e.x]:=by
 rw [List.take_add_one,h]; simp
end Go.Ps
