import Derived.Test.YthcbcdjkfefnlaaGreatDoorW05
import Derived.Test.YthcbcdjkfefnlaaGreatDoorW01
import Derived.Test.YthcbcdjkfefnlaaGreatDoorW00
/- A part of the proof: walks of the program. -/
set_option autoImplicit false
set_option linter.unusedSimpArgs false
set_option linter.unusedVariables false
set_option linter.unnecessarySimpa false
set_option maxRecDepth 100000
set_option maxHeartbeats 8000000
namespace Go.Proofs.YthcbcdjkfefnlaaGreatDoor
open Go.Gv
open Go.RowKit
open Go.Sn hiding En keysP keysP_len stop_ok
open Go.Ps
open Iv Sx Ip
namespace Ip
theorem RfIn.sp {s:Org} {room:Nat} {t:RH} {w:World} {S:List Nat} (h:RfIn s room t w S):Cells w ((⟨t.br,0,none⟩:Addr).add 0) [.slice s.da s.ds.length s.dc,.slice s.ra s.rs.length s.rc,.slice s.sa s.ss.length s.sc,.slice s.ca s.cs.length s.cc]:=fun j v hv=>by
 have h2:=h.p j v (by
  rcases j with _ | _ | _ | _ | j
  ·exact hv
  ·exact hv
  ·exact hv
  ·exact hv
  ·simp at hv)
 exact h2
end Ip
open Ip
theorem Zcz (s:Org) (hle:OrgLe s) (hck:(Yp s).2=0) (room:Nat) (t:RH) (ht:t.Ok s room) (w0:World) (hS:OrgIn s w0 []) (hR:RfIn s room t w0 []) (x:Pis) (ss cs:List Int) (a1 a2:Option Addr) (c1 c2:Nat) (hl1:ss.length≤140737488355328) (hl2:cs.length≤140737488355328) (h1:OldSl w0 [] a1 ss.length 1 (ss.map Xz)) (h2:OldSl w0 [] a2 cs.length 1 (cs.map Xz)):Sp Tryz.prog 63 [.pointer (some ⟨t.br,0,none⟩),Pis.val x,.agg #[.slice a1 ss.length c1,.slice a2 cs.length c2]] w0 [] (fun v L=>∃ (r:Option Nat) (d:Nat) (r2:Option Nat) (d2:Nat),v=.tuple #[.agg #[.slice (rowA r) (Z7 s t.st x ss cs).1.1.length d,.slice (rowA r2) (Z7 s t.st x ss cs).1.2.length d2],.int .i64 (Z7 s t.st x ss cs).2]∧L=[.row 3 1 r (Z7 s t.st x ss cs).1.1.length d ((Z7 s t.st x ss cs).1.1.map natV),.row 3 1 r2 (Z7 s t.st x ss cs).1.2.length d2 ((Z7 s t.st x ss cs).1.2.map natV)]):=by
 have hp:=hR.p
 have hsp:=hR.sp
 have hnd:=ht.p.hnd
 have hns:=ht.p.hns
 have hnc:=ht.p.hnc
 have hll:=ht.lenL
 refine ZD Tryz.func63 Z Tryz.ntmps63 Z (Own.refl _) ?_
 simp only [ZU]
 refine Zb<|Za<|Zs (Z6 Z Z Z (fun b4=>?_))
 refine Zs (Z6 Z Z Z (fun b5=>?_))
 refine Zs (ZT Z4 Z Z (fun b6=>?_))
 refine gas Z rfl<|gA<|Zb<|ZO [0,1,2] true 6 rfl<|Zd 0 Z Z ⟨[0,1,2],by decide,rfl⟩ (Zf (Zo Z)) ?_
 refine Zd 1 Z Z ⟨[0,1,2],by decide,rfl⟩ (Zf (ZK Z)) ?_
 refine Zd 2 Z Z ⟨[0,1,2],by decide,rfl⟩ (Zf (Zc Z (Vm _))) ?_
 refine Zd 3 Z Z ⟨[0,1,2],by decide,rfl⟩ (Zf (Zq Tryz.underlying45 Z Xr Z (by exact Zc6 (by assumption) (by simp)) Z)) ?_
 refine Zd 4 Z Z ⟨[0,1,2],by decide,rfl⟩ (Zf (Zq Tryz.underlying23 Z Yi Z (by exact ZF 2 (off:=0) (k:=3) Z Z) Z)) ?_
 refine Zd 5 Z Z ⟨[0,1,2],by decide,rfl⟩ (YG (vf:=[]) (vc:=[]) Z Z Tryz.call99 (fun w1 ho=>Zdo s hnd x w1) (by rintro _ _ ⟨h,_⟩; exact h)) ?_
 refine Zd 6 Z Z ⟨[0,1,2],by decide,rfl⟩ (Zf (ZY Z)) ?_
 refine ZP (.inr ⟨[0,1,2],by decide,rfl⟩) ?_
 refine Ze<|Zb<|Zb<|Za<|gm Z rfl<|gr Z (Ya Z Z) (Zw (fun h17=>?_) (fun h17=>?_))
 ·refine gA<|Zk rfl<|ZO [0,1,2] true 6 rfl<|Zd 0 Z Z ⟨[0,1,2],by decide,rfl⟩ (Zf (Zo Z)) ?_
  refine Zd 1 Z Z ⟨[0,1,2],by decide,rfl⟩ (Zf (ZK Z)) ?_
  refine Zd 2 Z Z ⟨[0,1,2],by decide,rfl⟩ (Zf (Zc Z (Vm _))) ?_
  refine Zd 3 Z Z ⟨[0,1,2],by decide,rfl⟩ (Zf (Zq Tryz.underlying45 Z Xr Z (by exact Zc6 (by assumption) (by simp)) Z)) ?_
  refine Zd 4 Z Z ⟨[0,1,2],by decide,rfl⟩ (Zf (Zq Tryz.underlying26 Z Z4 Z (by exact ZF 1 (off:=0) (k:=2) Z Z) Z)) ?_
  refine Zd 5 Z Z ⟨[0,1,2],by decide,rfl⟩ (YG (vf:=[]) (vc:=[]) Z Z Tryz.call31 (fun w1 ho=>Zbl s hle hnd hns hnc w1 (hS.at ho) hck ss cs _ _ _ _ hl1 hl2 (h1.at ho) (h2.at ho)) (by rintro _ _ ⟨h,_⟩; exact h)) ?_
  refine Zd 6 Z Z ⟨[0,1,2],by decide,rfl⟩ (Zf (ZY Z)) ?_
  refine ZP (.inr ⟨[0,1,2],by decide,rfl⟩) ?_
  refine Ze<|Zb<|Zb<|Za<|gm Z rfl<|gr Z (Z5 Z Z) (Zw (fun h25=>?_) (fun h25=>?_))
  ·refine gA<|Zk rfl<|Zb<|YB 3 1<|YB 3 1<|Za<|gr Z (ZV Z (fun _=>Zc9)) ?_
   refine gm Z rfl<|Zs (Zz 2 Z4 Z Z Z Z Z Z (by rfl) ?_)
   refine gas Z rfl<|gA<|Zu<|Zh<|WC (.inl Z) Tryz.results63 (YE Tryz.underlying26 Z Z4 Z (by rfl) (ZF 2 (off:=0) (k:=2) Z Z)) (YV Z) ⟨[0,1],by decide,rfl⟩ ?_
   unfold Z7
   rw [if_neg (by omega),if_pos h25]
   exact ⟨none,0,none,0,rfl,rfl⟩
  obtain ⟨r,rfl,rfl,hr⟩:=Zfh (Classical.not_not.1 h25)
  rw [YA] at h1 h2
  rw [Wn] at h1 h2
  simp only [YA]
  refine gA<|Zm rfl<|Zv<|Ze<|Zb<|Za<|gm Z rfl<|gr Z (Zq Tryz.underlying23 Z Yi Z (by exact ZF 2 (off:=0) (k:=3) Z Z) Z) ?_
  refine Zs (ZJ Z (vf:=[]) (vc:=[]) Z Z Tryz.call100 (fun w1 ho=>Zfv s room t w1 (hR.at ho).p (hR.at ho).l hll x) ?_)
  rintro _ _ ⟨rfl,z,rfl,hz⟩
  refine gas Z rfl<|gA<|Zb<|Zb<|Za<|gm Z rfl<|gr Z (ZX Z Z) (Zw (fun h32=>?_) (fun h32=>?_))
  ·refine gA<|Zk rfl<|Zb<|YB 3 1<|YB 3 1<|Za<|gr Z (ZV Z (fun _=>Zc9)) ?_
   refine Zs (Zz 2 Z4 Z Z Z Z Z Z (by rfl) ?_)
   refine gas Z rfl<|gA<|Zu<|Zh<|WC (.inl Z) Tryz.results63 (YE Tryz.underlying26 Z Z4 Z (by rfl) (ZF 2 (off:=0) (k:=2) Z Z)) (YV Z) ⟨[0,1],by decide,rfl⟩ ?_
   unfold Z7
   rw [if_neg (by omega),if_neg h25,hz.none h32]
   exact ⟨none,0,none,0,rfl,rfl⟩
  obtain ⟨i,e,rfl,hei,rfl,hpl⟩:=hz.some h32
  have hem:=List.mem_of_getElem? hei
  have hil:i<t.L.length:=(List.getElem?_eq_some_iff.1 hei).1
  refine gA<|Zm rfl<|Zv<|Ze<|Zb<|ZO [1,2] false 16 rfl<|Zd 0 Z Z ⟨[1,2],by decide,rfl⟩ (Zf (Zo Z)) ?_
  refine Zd 1 Z Z ⟨[1,2],by decide,rfl⟩ (Zf (ZK Z)) ?_
  refine Zd 2 Z Z ⟨[1,2],by decide,rfl⟩ (Zf (Zc Z (Vm _))) ?_
  refine Zd 3 Z Z ⟨[1,2],by decide,rfl⟩ (Zf (Zq Tryz.underlying45 Z Xr Z (by exact Zc6 (by assumption) (by simp)) Z)) ?_
  refine Zd 4 Z Z ⟨[1,2],by decide,rfl⟩ (Zf (Zq Tryz.underlying23 Z Yi Z (by exact ZF 1 (off:=0) (k:=3) Z Z) Z)) ?_
  refine Zd 5 Z Z ⟨[1,2],by decide,rfl⟩ (Zf (Zo Z)) ?_
  refine Zd 6 Z Z ⟨[1,2],by decide,rfl⟩ (Zf (ZK Z)) ?_
  refine Zd 7 Z Z ⟨[1,2],by decide,rfl⟩ (Zf (Zc Z (YZ _))) ?_
  refine Zd 8 Z Z ⟨[1,2],by decide,rfl⟩ (Zf (Zi Tryz.underlying74 Z Z (Yk hp (by simp) (j:=6) Z))) ?_
  refine Zd 9 Z Z ⟨[1,2],by decide,rfl⟩ (Zf (Zo Z)) ?_
  refine Zd 10 Z Z ⟨[1,2],by decide,rfl⟩ (Zf (Z3 hR.l Tryz.underlying74 Xc Z Z (by omega) (by omega))) ?_
  refine Zd 11 Z Z ⟨[1,2],by decide,rfl⟩ (Zf (Zc Z (Zb3 _))) ?_
  refine Zd 12 Z Z ⟨[1,2],by decide,rfl⟩ (Zf (Zq Tryz.underlying26 Z Z4 Z (Zft hR.l (YF keC 5 (fun _=>rfl) hei (j:=3) (n:=2) (by decide))) Z)) ?_
  refine Zd 13 Z Z ⟨[1,2],by decide,rfl⟩ (Zf (Zq Tryz.underlying26 Z Z4 Z (by exact ZF 0 (off:=0) (k:=2) Z Z) Z)) ?_
  refine ZL 14 Z (.inr ⟨[1,2],by decide,rfl⟩) (ZJ Z (vf:=[]) (vc:=[]) Z Z Tryz.call101 (fun w1 ho=>Zgk s hle hnd hns hnc w1 (hS.at ho) e.x e.r r (ht.rg hem) hr _ _ _ _ _ _ _ _ ((hR.k _ hem).at ho).s ((hR.k _ hem).at ho).c (h1.at ho) (h2.at ho)) ?_)
  rintro _ _ ⟨rS,dS,rC,dC,rfl,rfl⟩
  refine ZL 15 Z (.inr ⟨[3,4],by decide,rfl⟩) (Zz 2 Z4 Z Z Z Z Z Z (by rfl) ?_)
  refine ZL 16 Z (.inr ⟨[3,4],by decide,rfl⟩) (Zl Z (ZY Z) ?_)
  refine ZP (.inl (by kernel_rfl)) ?_
  refine Ze<|Zu<|WC (.inl Z) Tryz.results63 (YE Tryz.underlying26 Z Z4 Z (by rfl) (ZF 2 (off:=0) (k:=2) Z Z)) (YV Z) ⟨[0,1],by decide,rfl⟩ ?_
  unfold Z7
  rw [if_neg (by omega),if_neg h25,hpl,VJ]
  exact ⟨rS,dS,rC,dC,rfl,rfl⟩
 refine gA<|Zm rfl<|Zv<|Ze<|Zb<|Zb<|Za<|gm Z rfl<|gr Z (Z5 Z Z) (Zw (fun h25=>?_) (fun h25=>?_))
 ·refine gA<|Zk rfl<|Zb<|YB 3 1<|YB 3 1<|Za<|gr Z (ZV Z (fun _=>Zc9)) ?_
  refine gm Z rfl<|Zs (Zz 2 Z4 Z Z Z Z Z Z (by rfl) ?_)
  refine gas Z rfl<|gA<|Zu<|Zh<|WC (.inl Z) Tryz.results63 (YE Tryz.underlying26 Z Z4 Z (by rfl) (ZF 2 (off:=0) (k:=2) Z Z)) (YV Z) ⟨[0,1],by decide,rfl⟩ ?_
  unfold Z7
  rw [if_pos h17]
  exact ⟨none,0,none,0,rfl,rfl⟩
 exact absurd (Classical.not_not.1 h25) h17
theorem rList_ok (s:Org) (room:Nat) (t:RH) (ht:t.Ok s room) (w0:World) (hR:RfIn s room t w0 []):Sp Tryz.prog 67 [.pointer (some ⟨t.br,0,none⟩)] w0 [] (fun v L=>∃ (r:Option Nat) (d:Nat),v=.slice (rowA r) (t.L.map KE.x).length d∧L=[.row 23 3 r (t.L.map KE.x).length d ((t.L.map KE.x).flatMap Pis.cells)]):=by
 have hp:=hR.p
 have hll:=ht.lenL
 refine ZD Tryz.func67 Z Tryz.ntmps67 Z (Own.refl _) ?_
 simp only [ZU]
 refine Zb<|Za<|gas Z rfl<|gA<|Zb<|Za<|gas Z rfl<|gA<|Zb<|Zb<|Za<|gas Z rfl<|gA<|ZC<|YB 23 3<|ZZ (ι:=Nat × Option Nat × Nat) [(0,_)] [] (fun q=>q.1≤t.L.length) (fun q Fr0=>((3,.slice (rowA q.2.1) ((t.L.take q.1).map KE.x).length q.2.2)::(4,natV q.1)::Fr0)) (fun q Fr0=>(.row 23 3 q.2.1 ((t.L.take q.1).map KE.x).length q.2.2 (((t.L.take q.1).map KE.x).flatMap Pis.cells)::Fr0)) (fun q=>t.L.length - q.1) (0,none,0) (Nat.zero_le _) ⟨rfl,rfl,rfl,trivial⟩ ⟨[0],by decide,rfl⟩ ?_
 rintro ⟨k,ro,co⟩ hk
 simp only at hk ⊢
 refine Zb<|Zb<|Za<|gm Z rfl<|gm Z rfl<|gnc Z rfl<|gr Z (Zc Z (YZ _))<|gr Z (Zi Tryz.underlying74 Z Z (Yk hp (by simp) (j:=6) Z)) ?_
 refine gr Z (ZB Tryz.underlying74 Z)<|gr Z (ZX Z Z) (Zw (fun h11=>?_) (fun h11=>?_))
 ·obtain ⟨e1,hx⟩:=get_some (show k<t.L.length by omega)
  have hml:((t.L.take k).map KE.x).length≤1000:=by simp; omega
  refine gA<|Zk rfl<|Zv<|Ze<|Zb<|ZC<|Za<|gm Z rfl<|gm Z rfl<|gnc Z rfl<|gr Z (Zc Z (YZ _))<|gr Z (Zi Tryz.underlying74 Z Z (Yk hp (by simp) (j:=6) Z)) ?_
  refine gm Z rfl<|gr Z (Z3 hR.l Tryz.underlying74 Xc Z Z (by omega) (by omega)) ?_
  refine gr Z (Zc Z (Vq _))<|gr Z (Zq Tryz.underlying23 Z Yi Z (Zft hR.l (YF keC 5 (fun _=>rfl) hx (j:=0) (n:=3) (by decide))) Z) ?_
  refine Zs (ZQ (sz:=3) Z Z (fun _=>Jj _ _ _) Z Z (fun b23=>?_))
  refine Zs (Yd 1 0 Tryz.underlying56 Yi Z (by decide) Z Z Z Z Z (by simp [Value.oneCell']) (by omega) (by omega) (fun _=>(by rfl)) (fun r24 c24=>?_))
  refine gas Z rfl<|ZM<|ZI<|Ze<|Za<|gm Z rfl<|gr Z (by exact ZN (b:=1) Z Z (by omega)) ?_
  refine gas Z rfl<|ZM<|Ze ?_
  have ht9:=map_at hx
  rw [show ((t.L.take k).map KE.x).length+1=((t.L.take (k+1)).map KE.x).length by rw [ht9,List.length_append]; rfl,show ((t.L.take k).map KE.x).flatMap Pis.cells++[.int .i64 e1.x.lv,.int .i64 e1.x.dv,.int .i64 e1.x.nm]=((t.L.take (k+1)).map KE.x).flatMap Pis.cells by rw [ht9,List.flatMap_append]; rfl]
  exact ZR ((k+1,r24,c24)) ⟨by simp only; omega,by simp only; omega⟩ ⟨rfl,rfl,rfl,trivial⟩ ⟨[1],by decide,rfl⟩
 refine gA<|Zm rfl<|Z1<|Zt<|Zt<|ZE<|Ze<|Zb ?_
 rw [List.take_of_length_le (by omega)]
 refine Za<|gm Z rfl<|gas Z rfl<|gA<|Zu<|Zy (.inl Z) Tryz.results67 Z [0] (by decide) ?_
 exact ⟨ro,co,rfl,rfl⟩
theorem rLit_ok (s:Org) (hle:OrgLe s) (hck:(Yp s).2=0) (room:Nat) (t:RH) (ht:t.Ok s room) (w0:World) (hS:OrgIn s w0 []) (hR:RfIn s room t w0 []) (ss cs:List Int) (a1 a2:Option Addr) (c1 c2:Nat) (hl1:ss.length≤140737488355328) (hl2:cs.length≤140737488355328) (h1:OldSl w0 [] a1 ss.length 1 (ss.map Xz)) (h2:OldSl w0 [] a2 cs.length 1 (cs.map Xz)):Sp Tryz.prog 66 [.pointer (some ⟨t.br,0,none⟩),.agg #[.slice a1 ss.length c1,.slice a2 cs.length c2]] w0 [] (fun v L=>∃ (r:Option Nat) (d:Nat),v=.tuple #[.slice (rowA r) (Wp s t.st ss cs).1.length d,.int .i64 (Wp s t.st ss cs).2]∧L=[.row 23 3 r (Wp s t.st ss cs).1.length d ((Wp s t.st ss cs).1.flatMap Pis.cells)]):=by
 have hp:=hR.p
 have hsp:=hR.sp
 have hnd:=ht.p.hnd
 have hns:=ht.p.hns
 have hnc:=ht.p.hnc
 have hll:=ht.lenL
 refine ZD Tryz.func66 Z Tryz.ntmps66 Z (Own.refl _) ?_
 simp only [ZU]
 refine Zb<|Za<|Zs (Z6 Z Z Z (fun b3=>?_))
 refine gas Z rfl<|gas Z rfl<|gA<|Zb<|ZO [0] true 6 rfl<|Zd 0 Z Z ⟨[0],by decide,rfl⟩ (Zf (Zo Z)) ?_
 refine Zd 1 Z Z ⟨[0],by decide,rfl⟩ (Zf (ZK Z)) ?_
 refine Zd 2 Z Z ⟨[0],by decide,rfl⟩ (Zf (Zc Z (Vm _))) ?_
 refine Zd 3 Z Z ⟨[0],by decide,rfl⟩ (Zf (Zq Tryz.underlying45 Z Xr Z (by exact Zc6 (by assumption) (by simp)) Z)) ?_
 refine Zd 4 Z Z ⟨[0],by decide,rfl⟩ (Zf (Zq Tryz.underlying26 Z Z4 Z (by exact ZF 0 (off:=0) (k:=2) Z Z) Z)) ?_
 refine Zd 5 Z Z ⟨[0],by decide,rfl⟩ (YG (vf:=[]) (vc:=[]) Z Z Tryz.call31 (fun w1 ho=>Zbl s hle hnd hns hnc w1 (hS.at ho) hck ss cs _ _ _ _ hl1 hl2 (h1.at ho) (h2.at ho)) (by rintro _ _ ⟨h,_⟩; exact h)) ?_
 refine Zd 6 Z Z ⟨[0],by decide,rfl⟩ (Zf (ZY Z)) ?_
 refine ZP (.inr ⟨[0],by decide,rfl⟩) ?_
 refine Ze<|Zb<|Zb<|Za<|gm Z rfl<|gr Z (Z5 Z Z) (Zw (fun h16=>?_) (fun h16=>?_))
 ·refine gA<|Zk rfl<|Zb<|YB 23 3<|Za<|gm Z rfl<|gas Z rfl<|gas Z rfl<|gA<|Zu<|Zh<|Y7 (.inl Z) Tryz.results66 Z Z [0] (by decide) ?_
  unfold Wp
  rw [if_pos h16]
  exact ⟨none,0,rfl,rfl⟩
 obtain ⟨r,rfl,rfl,hr⟩:=Zfh (Classical.not_not.1 h16)
 rw [YA] at h1 h2
 rw [Wn] at h1 h2
 simp only [YA]
 refine gA<|Zm rfl<|Zv<|Ze<|Zb<|Za<|gas Z rfl<|gA<|Zb<|Zb<|Za<|gas Z rfl<|gA<|ZC<|YB 23 3<|ZZ (ι:=Nat × Option Nat × Nat × List Pis) [(0,_),(3,_)] [_] (fun q=>q.1≤t.L.length∧q.2.2.2=(((prs (t.L.take q.1)).filter fun q=>Zfr s r q.1 q.2).map (·.1))) (fun q Fr0=>((7,.slice (rowA q.2.1) q.2.2.2.length q.2.2.1)::(8,natV q.1)::Fr0)) (fun q Fr0=>(.row 23 3 q.2.1 q.2.2.2.length q.2.2.1 (q.2.2.2.flatMap Pis.cells)::Fr0)) (fun q=>t.L.length - q.1) (0,none,0,[]) (⟨Nat.zero_le _,rfl⟩) ⟨rfl,rfl,rfl,rfl,trivial⟩ ⟨[0,1],by decide,rfl⟩ ?_
 rintro ⟨k,ro,co,out⟩ ⟨hk,hf⟩
 simp only at hk hf ⊢
 refine Zb<|Zb<|Za<|gm Z rfl<|gm Z rfl<|gnc Z rfl<|gr Z (Zc Z (YZ _))<|gr Z (Zi Tryz.underlying74 Z Z (Yk hp (by simp) (j:=6) Z)) ?_
 refine gr Z (ZB Tryz.underlying74 Z)<|gr Z (ZX Z Z) (Zw (fun h24=>?_) (fun h24=>?_))
 ·obtain ⟨e1,hx⟩:=get_some (show k<t.L.length by omega)
  have hem:=List.mem_of_getElem? hx
  have hlen:out.length≤k:=by rw [hf,List.length_map]; refine Nat.le_trans (List.length_filter_le _ _) ?_; simp [prs]; omega
  refine gA<|Zk rfl<|Zv<|Ze<|Zb<|ZC<|Zb<|ZO [0,1] true 23 rfl<|Zd 0 Z Z ⟨[0,1],by decide,rfl⟩ (Zf (Zo Z)) ?_
  refine Zd 1 Z Z ⟨[0,1],by decide,rfl⟩ (Zf (ZK Z)) ?_
  refine Zd 2 Z Z ⟨[0,1],by decide,rfl⟩ (Zf (Zc Z (Vm _))) ?_
  refine Zd 3 Z Z ⟨[0,1],by decide,rfl⟩ (Zf (Zq Tryz.underlying45 Z Xr Z (by exact Zc6 (by assumption) (by simp)) Z)) ?_
  refine Zd 4 Z Z ⟨[0,1],by decide,rfl⟩ (Zf (Zo Z)) ?_
  refine Zd 5 Z Z ⟨[0,1],by decide,rfl⟩ (Zf (ZK Z)) ?_
  refine Zd 6 Z Z ⟨[0,1],by decide,rfl⟩ (Zf (Zc Z (YZ _))) ?_
  refine Zd 7 Z Z ⟨[0,1],by decide,rfl⟩ (Zf (Zi Tryz.underlying74 Z Z (Yk hp (by simp) (j:=6) Z))) ?_
  refine Zd 8 Z Z ⟨[0,1],by decide,rfl⟩ (Zf (Zo Z)) ?_
  refine Zd 9 Z Z ⟨[0,1],by decide,rfl⟩ (Zf (Z3 hR.l Tryz.underlying74 Xc Z Z (by omega) (by omega))) ?_
  refine Zd 10 Z Z ⟨[0,1],by decide,rfl⟩ (Zf (Zc Z (Vq _))) ?_
  refine Zd 11 Z Z ⟨[0,1],by decide,rfl⟩ (Zf (Zq Tryz.underlying23 Z Yi Z (Zft hR.l (YF keC 5 (fun _=>rfl) hx (j:=0) (n:=3) (by decide))) Z)) ?_
  refine Zd 12 Z Z ⟨[0,1],by decide,rfl⟩ (Zf (Zo Z)) ?_
  refine Zd 13 Z Z ⟨[0,1],by decide,rfl⟩ (Zf (ZK Z)) ?_
  refine Zd 14 Z Z ⟨[0,1],by decide,rfl⟩ (Zf (Zc Z (YZ _))) ?_
  refine Zd 15 Z Z ⟨[0,1],by decide,rfl⟩ (Zf (Zi Tryz.underlying74 Z Z (Yk hp (by simp) (j:=6) Z))) ?_
  refine Zd 16 Z Z ⟨[0,1],by decide,rfl⟩ (Zf (Zo Z)) ?_
  refine Zd 17 Z Z ⟨[0,1],by decide,rfl⟩ (Zf (Z3 hR.l Tryz.underlying74 Xc Z Z (by omega) (by omega))) ?_
  refine Zd 18 Z Z ⟨[0,1],by decide,rfl⟩ (Zf (Zc Z (Zb3 _))) ?_
  refine Zd 19 Z Z ⟨[0,1],by decide,rfl⟩ (Zf (Zq Tryz.underlying26 Z Z4 Z (Zft hR.l (YF keC 5 (fun _=>rfl) hx (j:=3) (n:=2) (by decide))) Z)) ?_
  refine Zd 20 Z Z ⟨[0,1],by decide,rfl⟩ (Zf (Zq Tryz.underlying26 Z Z4 Z (by exact ZF 1 (off:=0) (k:=2) Z Z) Z)) ?_
  refine Zd 22 Z Z ⟨[0,1],by decide,rfl⟩ (Zf (Zq Tryz.underlying26 Z Z4 Z (by exact ZF 1 (off:=0) (k:=2) Z Z) Z)) ?_
  refine ZL 21 Z (.inr ⟨[0,1],by decide,rfl⟩) (ZJ Z (vf:=[]) (vc:=[]) Z Z Tryz.call101 (fun w1 ho=>Zgk s hle hnd hns hnc w1 (hS.at ho) e1.x e1.r r (ht.rg hem) hr _ _ _ _ _ _ _ _ ((hR.k _ hem).at ho).s ((hR.k _ hem).at ho).c (h1.at ho) (h2.at ho)) ?_)
  rintro _ _ ⟨rA,dA,rC,dC,rfl,rfl⟩
  refine ZL 23 Z (.inr ⟨[2,3],by decide,rfl⟩) (ZJ Z (vf:=[]) (vc:=[]) Z Z Tryz.call32 (fun w1 ho=>JF (Xf s e1.x e1.r r) r _ _ _ _ _ _ _ _ (Nat.le_trans (Vx (Zcj s e1.x e1.r r) hns) (by decide)) (Nat.le_trans (Vy (Zcj s e1.x e1.r r) hnc) (by decide)) w1 (ho.rowSl 0 Z) (ho.rowSl 1 Z) (h1.at ho) (h2.at ho)) ?_)
  rintro _ _ ⟨rfl,rfl⟩
  refine Z0 (fun hlit=>?_) (fun hlit=>?_)
  ·refine ZP (.inr ⟨[2,3],by decide,rfl⟩) ?_
   refine Ze<|Zk rfl<|Za<|gm Z rfl<|gm Z rfl<|gnc Z rfl<|gr Z (Zc Z (YZ _))<|gr Z (Zi Tryz.underlying74 Z Z (Yk hp (by simp) (j:=6) Z)) ?_
   refine gm Z rfl<|gr Z (Z3 hR.l Tryz.underlying74 Xc Z Z (by omega) (by omega)) ?_
   refine gr Z (Zc Z (Vq _))<|gr Z (Zq Tryz.underlying23 Z Yi Z (Zft hR.l (YF keC 5 (fun _=>rfl) hx (j:=0) (n:=3) (by decide))) Z) ?_
   refine Zs (ZQ (sz:=3) Z Z (fun _=>Jj _ _ _) Z Z (fun b60=>?_))
   refine Zs (Yd 3 0 Tryz.underlying56 Yi Z (by decide) Z Z Z Z Z (by simp [Value.oneCell']) (by omega) (by omega) (fun _=>(by rfl)) (fun r61 c61=>?_))
   refine gas Z rfl<|ZM<|ZI<|Ze<|Za<|gm Z rfl<|gr Z (by exact ZN (b:=1) Z Z (by omega)) ?_
   refine gas Z rfl<|ZM<|Ze ?_
   rw [show out.length+1=(out++[e1.x]).length by simp,show out.flatMap Pis.cells++[.int .i64 e1.x.lv,.int .i64 e1.x.dv,.int .i64 e1.x.nm]=(out++[e1.x]).flatMap Pis.cells by simp]
   exact ZR ((k+1,r61,c61,out++[e1.x])) ⟨⟨by simp only; omega,by simp only; rw [Zrf (fun p q=>Zfr s r p q) hx,if_pos (show Zfr s r e1.x e1.r=true from hlit),hf]⟩,by simp only; omega⟩ ⟨rfl,rfl,rfl,rfl,trivial⟩ ⟨[3,4],by decide,rfl⟩
  refine ZP (.inr ⟨[2,3],by decide,rfl⟩) ?_
  refine Ze<|Zm rfl<|Zv<|ZI<|Ze<|Za<|gm Z rfl<|gr Z (by exact ZN (b:=1) Z Z (by omega)) ?_
  refine gas Z rfl<|ZM<|Ze ?_
  exact ZR ((k+1,ro,co,out)) ⟨⟨by simp only; omega,by simp only; rw [Zrf (fun p q=>Zfr s r p q) hx,if_neg (by rw [show Zfr s r e1.x e1.r=false from hlit]; decide),List.append_nil,hf]⟩,by simp only; omega⟩ ⟨rfl,rfl,rfl,rfl,trivial⟩ ⟨[2,3],by decide,rfl⟩
 refine gA<|Zm rfl<|Z1<|Zt<|Zt<|ZE<|Ze<|Zb ?_
 rw [List.take_of_length_le (by omega)] at hf
 subst hf
 refine Za<|gm Z rfl<|gas Z rfl<|gas Z rfl<|gA<|Zu<|Y7 (.inl Z) Tryz.results66 Z Z [0] (by decide) ?_
 unfold Wp
 rw [if_neg h16,VJ]
 exact ⟨ro,co,rfl,rfl⟩
namespace Ip
section
variable {s:Org} {room:Nat} {t:RH}
theorem Zsv (h:t.Ok s room) {x:Pis} {to:Int} (hp:Yu t.st.2 x=none) (rl:Option Nat) (cl:Nat):Y6 room to t.st x=(RH.st { t with rl:=rl,cl:=cl,L:=XI t.L (atL x to) },0):=by
 unfold Y6
 rw [hp]
 show ((t.U,forgetR (prs t.L) (atL x to)),(0:Int))=((t.U,prs (XI t.L (atL x to))),0)
 rw [Zdn]
theorem Zsw {x:Pis} {to:Int} {r:Rg} (hp:Yu t.st.2 x=some r) (hf:Vz room t.U (atL x to)):Y6 room to t.st x=(t.st,5):=by
 unfold Y6
 rw [hp]
 exact if_pos hf
theorem Zc0 {x:Pis} {to:Int} {e:KE} (hp:Yu t.st.2 x=some e.r) (hf:¬ Vz room t.U (atL x to)) (ru rl:Option Nat) (cu cl:Nat) :
    Y6 room to t.st x=(RH.st { t with ru:=ru,cu:=cu,U:=Xd t.U (atL x to),rl:=rl,cl:=cl,L:=Ve t.L ⟨atL x to,e.a1,e.c1,e.a2,e.c2,e.r⟩ },0):=by
  unfold Y6
  rw [hp]
  show (if Vz room t.U (atL x to) then (t.st,(5:Int)) else ((Xd t.U (atL x to),VZ (prs t.L) (atL x to) e.r),0))=((Xd t.U (atL x to),prs (Ve t.L _)),0)
  rw [if_neg hf,Ziu]
end
end Ip
theorem Zop (s:Org) (room:Nat) (t:RH) (ht:t.Ok s room) (S:List Nat) (w0:World) (hown:Own w0 S w0 (t.hd s room)) (frm to:Int):Sp Tryz.prog 65 [.pointer (some ⟨t.br,0,none⟩),.int .i64 frm,.int .i64 to] w0 S (fun v L=>v=.int .i64 (X2 s room t.st frm to).2∧RefT s room t (X2 s room t.st frm to).1 L):=by
 have hnd:=ht.p.hnd
 have hal:=X8 frm s.ds.length
 refine ZD Tryz.func65 Z Tryz.ntmps65 Z hown ?_
 simp only [ZU]
 refine Zb<|Za<|gas Z rfl<|gA<|Zb<|Zb<|Za<|gm Z rfl<|gr Z (ZX Z Z) (Zw (fun h14=>?_) (fun h14=>?_))
 ·refine gm Z rfl<|Zj Z Z rfl<|Zj Z Z rfl<|gr Z (Zp Z Z)<|gm Z rfl<|Zj Z Z rfl<|Zj Z Z rfl<|gr Z (Zp Z Z)<|gm Z rfl<|Zj Z Z rfl<|Zj Z Z rfl<|gr Z (Zp Z Z)<|gA<|Zk rfl<|Zb<|Za<|gas Z rfl<|gA<|Zu<|Zh<|ZW (.inl Z) Tryz.results65 Z ⟨[0,1,2],by decide,rfl⟩ ?_
  unfold X2
  rw [if_pos (by omega)]
  exact ⟨rfl,RefT.same ht⟩
 refine gm Z rfl<|Zg Z rfl<|Zl Z (Zo Z)<|Zg Z Z (Zl Z (Yn Z Z) (Zw (fun h17=>?_) (fun h17=>?_)))
 ·refine gr Z (Zn Z Z)<|gm Z rfl<|Zj Z Z rfl<|Zj Z Z rfl<|gr Z (Zp Z Z)<|gm Z rfl<|Zj Z Z rfl<|Zj Z Z rfl<|gr Z (Zp Z Z)<|gA<|Zk rfl<|Zb<|Za<|gas Z rfl<|gA<|Zu<|Zh<|ZW (.inl Z) Tryz.results65 Z ⟨[0,1,2],by decide,rfl⟩ ?_
  unfold X2
  rw [if_pos (by omega)]
  exact ⟨rfl,RefT.same ht⟩
 refine gr Z (Zn Z Z)<|gm Z rfl<|Zg Z rfl<|Zl Z (Zo Z)<|Zg Z Z (Zl Z (ZX Z Z) (Zw (fun h21=>?_) (fun h21=>?_)))
 ·refine gr Z (Zn Z Z)<|gm Z rfl<|Zj Z Z rfl<|Zj Z Z rfl<|gr Z (Zp Z Z)<|gA<|Zk rfl<|Zb<|Za<|gas Z rfl<|gA<|Zu<|Zh<|ZW (.inl Z) Tryz.results65 Z ⟨[0,1,2],by decide,rfl⟩ ?_
  unfold X2
  rw [if_pos (by omega)]
  exact ⟨rfl,RefT.same ht⟩
 refine gr Z (Zn Z Z)<|gm Z rfl<|Zg Z rfl<|Zl Z (Zo Z)<|Zg Z Z (Zl Z (Yn Z Z) (Zw (fun h25=>?_) (fun h25=>?_)))
 ·refine gr Z (Zn Z Z)<|gA<|Zk rfl<|Zb<|Za<|gas Z rfl<|gA<|Zu<|Zh<|ZW (.inl Z) Tryz.results65 Z ⟨[0,1,2],by decide,rfl⟩ ?_
  unfold X2
  rw [if_pos (by omega)]
  exact ⟨rfl,RefT.same ht⟩
 refine gr Z (Zn Z Z)<|gA<|Zm rfl<|Zv<|Ze<|Zb<|Za<|gm Z rfl<|gnc Z rfl<|gr Z (Zc Z (Vm _))<|gr Z (Zq Tryz.underlying45 Z Xr Z (by exact ZF 0 (off:=0) (k:=4) Z Z) Z) ?_
 refine gm Z rfl<|Zs (ZJ Z (vf:=[]) (vc:=[]) Z Z Tryz.call29 (fun w1 ho=>Zl3 s hnd frm w1) ?_)
 rintro _ _ ⟨ra,ca,rfl,rfl⟩
 refine gas Z rfl<|gA<|Zb<|Zb<|Za<|gas Z rfl<|gA<|ZC<|ZZ (ι:=Nat × RH) [(0,_),(1,_),(2,_),(7,_)] [_] (fun q=>q.1≤(YD s.ds.length frm).length∧q.2.br=t.br∧q.2.T=t.T∧q.2.Ok s room∧(frm=to→q.1=0)∧Y3 room to ((YD s.ds.length frm).take q.1) t.st=(q.2.st,0)) (fun q Fr0=>((8,natV q.1)::Fr0)) (fun q Fr0=>(.blk t.br (rfC s room q.2) 76::rfU q.2::rfL q.2::Fr0)) (fun q=>(YD s.ds.length frm).length - q.1) (0,t) (⟨Nat.zero_le _,rfl,rfl,ht,fun _=>rfl,rfl⟩) ⟨rfl,rfl,rfl,rfl,rfl,trivial⟩ ⟨[1,2,3,0],by decide,rfl⟩ ?_
 rintro ⟨k,br1,ru,cu,rl,cl,U,L,T1⟩ ⟨hk,hbr,hT,hok,hk0,hcf⟩
 simp only at hk hbr hT hk0
 subst hbr hT
 replace hok:RH.Ok s room (⟨t.br,ru,cu,rl,cl,U,L,t.T⟩:RH):=hok
 have hll:L.length≤1000:=hok.lenL
 have hul:U.length≤1000:=hok.lenU
 refine Zb<|Zb<|Za<|gm Z rfl<|gm Z rfl<|gr Z (ZB Tryz.underlying56 Z)<|gr Z (ZX Z Z) (Zw (fun h36=>?_) (fun h36=>?_))
 ·refine gm Z rfl<|Zg Z rfl<|Zl Z (Zo Z)<|Zg Z rfl<|Zl Z (Zo Z)<|Zg Z Z (Zl Z (Z5 Z Z) (Zw (fun h40=>?_) (fun h40=>?_)))
  ·obtain ⟨x,hx⟩:=get_some (show k<(YD s.ds.length frm).length by omega)
   refine gr Z (Zp Z Z)<|gA<|Zk rfl<|Zv<|Ze<|Zb<|ZC<|Zb<|Za<|gm Z rfl<|gm Z rfl<|gr Z (by exact YL 3 Z Tryz.underlying56 Yi Z Z (by omega) (by omega)) ?_
   refine gr Z (Zq Tryz.underlying23 Z Yi Z (JK 3 Z (Ye Pis.cells 3 (fun _=>rfl) hx)) Z) ?_
   refine Zs (ZT Yi Z Z (fun b9=>?_))
   refine Zs (Zz 0 Yi Z Z Z Z Z Z (by rfl) ?_)
   refine gA<|Zb<|Za<|gr Z (Zq Tryz.underlying23 Z Yi Z (by exact ZF 0 (off:=0) (k:=3) Z Z) Z) ?_
   refine Zs (ZT Yi Z Z (fun b10=>?_))
   refine Zs (Zz 0 Yi Z Z Z Z Z Z (by rfl) ?_)
   refine gA<|Zb<|Za<|gm Z rfl<|gr Z (Zc Z (Wc _))<|Zs (Z8 0 Y4 Z Z Z Z Z (by rfl) (by rfl) ?_)
   refine gA<|Zb<|Za<|gm Z rfl<|gr Z (Zq Tryz.underlying23 Z Yi Z (by exact ZF 1 (off:=0) (k:=3) Z Z) Z) ?_
   refine Zs (ZJ Z (vf:=[]) (vc:=[]) Z Z Tryz.call100 (fun w1 ho=>Zfv s room (⟨t.br,ru,cu,rl,cl,U,L,t.T⟩:RH) w1 (ho.blkCells 2 Z) (ho.rowSl 4 Z) hll x) ?_)
   rintro _ _ ⟨rfl,z,rfl,hz⟩
   refine gas Z rfl<|gA<|Zb<|Zb<|Za<|gm Z rfl<|gr Z (ZX Z Z) (Zw (fun h55=>?_) (fun h55=>?_))
   ·refine gA<|Zk rfl<|Zb<|Za<|gm Z rfl<|gr Z (Zq Tryz.underlying23 Z Yi Z (by exact ZF 0 (off:=0) (k:=3) Z Z) Z) ?_
    refine Zs (Yj [2,3,4] [0,1,5] Z (vf:=[]) (vc:=[]) Z Z Tryz.call102 (by decide) Z (fun w how hc=>Zix s room (⟨t.br,ru,cu,rl,cl,U,L,t.T⟩:RH) _ w hc hll (atL x to)) ?_)
    rintro _ _ ⟨rfl,rl2,cl2,rfl⟩
    refine gA<|Z1<|Zt<|ZE<|Ze<|Za<|gm Z rfl<|gr Z (by exact ZN (b:=1) Z Z (by omega)) ?_
    refine gas Z rfl<|ZM<|Ze ?_
    exact ZR ((k+1,{ (⟨t.br,ru,cu,rl,cl,U,L,t.T⟩:RH) with rl:=rl2,cl:=cl2,L:=XI L (atL x to) })) ⟨⟨by simp only; omega,rfl,rfl,Ziz hok (atL x to) rl2 cl2,fun h=>absurd h h40,by rw [take_at hx]; exact JG hcf (Zsv hok (hz.none h55) rl2 cl2)⟩,by simp only; omega⟩ ⟨rfl,rfl,rfl,rfl,rfl,trivial⟩ ⟨[0,1,2,5],by decide,rfl⟩
   obtain ⟨i,e,rfl,hei,hex,hp⟩:=hz.some h55
   have hem:=List.mem_of_getElem? hei
   have hil:i<L.length:=(List.getElem?_eq_some_iff.1 hei).1
   have hre:=hok.rg hem
   have hxm:x∈(YD s.ds.length frm):=List.mem_of_getElem? hx
   have hxt:pnE s.ds.length (atL x to)=0:=pn_at ((Vv (by omega) (by omega)).1 hxm).2 (by omega) (by omega)
   refine gA<|Zm rfl<|Zv<|Ze<|Zb<|Za<|gm Z rfl<|gr Z (Zq Tryz.underlying23 Z Yi Z (by exact ZF 0 (off:=0) (k:=3) Z Z) Z) ?_
   refine Zs (Yj [2,3,4] [0,1,5] Z (vf:=[]) (vc:=[]) Z Z Tryz.call103 (by decide) Z (fun w how hc=>Zrh s room (⟨t.br,ru,cu,rl,cl,U,L,t.T⟩:RH) _ w hc hul hok.p.hroom (atL x to)) ?_)
   rintro _ _ (⟨hfl,rfl,rfl⟩ | ⟨hfl,rfl,ru2,cu2,rfl⟩)
   ·refine gas Z rfl<|gA<|Zb<|Zb<|Za<|gm Z rfl<|gr Z (Z5 Z Z) (Zw (fun h63=>?_) (fun h63=>?_))
    ·refine gA<|Zk rfl<|Zb<|Za<|gm Z rfl<|gas Z rfl<|gA<|Zu<|Zh<|Zx<|Zh<|Zh<|Zx<|Zh<|ZW (.inl Z) Tryz.results65 Z ⟨[0,1,2],by decide,rfl⟩ ?_
     unfold X2
     rw [if_neg (by omega),if_neg h40,split_at hx,Zp7 hcf (Zsw (t:=(⟨t.br,ru,cu,rl,cl,U,L,t.T⟩:RH)) hp hfl) (by decide)]
     exact ⟨rfl,(⟨t.br,ru,cu,rl,cl,U,L,t.T⟩:RH),[],rfl,rfl,rfl,hok,rfl⟩
    exact absurd rfl (fun h:(5:Int)=5=>h63 (by decide))
   refine gas Z rfl<|gA<|Zb<|Zb<|Za<|gm Z rfl<|gr Z (Z5 Z Z) (Zw (fun h63=>?_) (fun h63=>?_))
   ·exact absurd rfl h63
   refine gA<|Zm rfl<|Zv<|Ze<|ZO [0,1,2,3,4,5] false 9 rfl<|WE 0 Z Z (fun _=>Zo Z) ?_
   refine WE 2 Z Z (fun _=>Zo Z) ?_
   refine WE 3 Z Z (fun _=>ZK Z) ?_
   refine WE 4 Z Z (fun _=>Zc Z (YZ _)) ?_
   refine WE 6 Z Z (fun _=>Zo Z) ?_
   refine Za2 1 5 (Gv.bm 11 95) (Gv.bm 11 125) Z Z Z Z (by kernel_rfl) (by kernel_rfl) (by kernel_rfl) (.inr ⟨[0,1,2,3,4,5],by decide,rfl⟩) ?_ ?_
   ·refine (Zl Z (Zq Tryz.underlying23 Z Yi Z (by exact ZF 3 (off:=0) (k:=3) Z Z) Z) ?_)
    refine ZL 5 Z (.inr ⟨[0,1,2,3,4,5],by decide,rfl⟩) (Zl Z (Zi Tryz.underlying74 Z Z (by exact Zr 0 Z Z)) ?_)
    refine ZL 7 Z (.inr ⟨[0,1,2,3,4,5],by decide,rfl⟩) (Zl Z (YL 2 (m:=L.length) (r:=rl) Z Tryz.underlying74 Xc Z Z (by omega) (by omega)) ?_)
    refine Zd 8 Z Z ⟨[0,1,2,3,4,5],by decide,rfl⟩ (Zf (Zc Z (Zb3 _))) ?_
    refine ZL 9 Z (.inr ⟨[0,1,2,3,4,5],by decide,rfl⟩) (Zl Z (Zq Tryz.underlying26 Z Z4 Z (Jh 2 Z (YF keC 5 (fun _=>rfl) hei (j:=3) (n:=2) (by decide))) Z) ?_)
    refine ZL 10 Z (.inl (by kernel_rfl)) (Yj [0,1,2] [3,4,5] Z (vf:=[]) (vc:=[]) Z Z Tryz.call104 (by decide) Z (fun w how hc=>Zaw s room { (⟨t.br,ru,cu,rl,cl,U,L,t.T⟩:RH) with ru:=ru2,cu:=cu2,U:=Xd U (atL x to) } _ w hc hll ⟨atL x to,e.a1,e.c1,e.a2,e.c2,e.r⟩) ?_)
    rintro _ _ ⟨rfl,rl2,cl2,rfl⟩
    refine ZP (.inl (by kernel_rfl)) ?_
    refine ZI<|Ze<|Za<|gm Z rfl<|gr Z (by exact ZN (b:=1) Z Z (by omega)) ?_
    refine gas Z rfl<|ZM<|Ze ?_
    exact ZR ((k+1,{ (⟨t.br,ru,cu,rl,cl,U,L,t.T⟩:RH) with ru:=ru2,cu:=cu2,U:=Xd U (atL x to),rl:=rl2,cl:=cl2,L:=Ve L ⟨atL x to,e.a1,e.c1,e.a2,e.c2,e.r⟩ })) ⟨⟨by simp only; omega,rfl,rfl,Zcl hok (X:=[]) (e:=⟨atL x to,e.a1,e.c1,e.a2,e.c2,e.r⟩) hxt hre hfl (hok.k e hem),fun h=>absurd h h40,by rw [take_at hx]; exact JG hcf (Zc0 (t:=(⟨t.br,ru,cu,rl,cl,U,L,t.T⟩:RH)) hp hfl ru2 rl2 cu2 cl2)⟩,by simp only; omega⟩ ⟨rfl,rfl,rfl,rfl,rfl,trivial⟩ ⟨[0,1,2,5],by decide,rfl⟩
   refine (Zl Z (Zi Tryz.underlying74 Z Z (by exact Zr 0 Z Z)) ?_)
   refine Za2 1 7 (Gv.bm 11 127) (Gv.bm 11 253) Z Z Z Z (by kernel_rfl) (by kernel_rfl) (by kernel_rfl) (.inr ⟨[0,1,2,3,4,5],by decide,rfl⟩) ?_ ?_
   ·refine (Zl Z (Zq Tryz.underlying23 Z Yi Z (by exact ZF 3 (off:=0) (k:=3) Z Z) Z) ?_)
    refine ZL 7 Z (.inr ⟨[0,1,2,3,4,5],by decide,rfl⟩) (Zl Z (YL 2 (m:=L.length) (r:=rl) Z Tryz.underlying74 Xc Z Z (by omega) (by omega)) ?_)
    refine Zd 8 Z Z ⟨[0,1,2,3,4,5],by decide,rfl⟩ (Zf (Zc Z (Zb3 _))) ?_
    refine ZL 9 Z (.inr ⟨[0,1,2,3,4,5],by decide,rfl⟩) (Zl Z (Zq Tryz.underlying26 Z Z4 Z (Jh 2 Z (YF keC 5 (fun _=>rfl) hei (j:=3) (n:=2) (by decide))) Z) ?_)
    refine ZL 10 Z (.inl (by kernel_rfl)) (Yj [0,1,2] [3,4,5] Z (vf:=[]) (vc:=[]) Z Z Tryz.call104 (by decide) Z (fun w how hc=>Zaw s room { (⟨t.br,ru,cu,rl,cl,U,L,t.T⟩:RH) with ru:=ru2,cu:=cu2,U:=Xd U (atL x to) } _ w hc hll ⟨atL x to,e.a1,e.c1,e.a2,e.c2,e.r⟩) ?_)
    rintro _ _ ⟨rfl,rl2,cl2,rfl⟩
    refine ZP (.inl (by kernel_rfl)) ?_
    refine ZI<|Ze<|Za<|gm Z rfl<|gr Z (by exact ZN (b:=1) Z Z (by omega)) ?_
    refine gas Z rfl<|ZM<|Ze ?_
    exact ZR ((k+1,{ (⟨t.br,ru,cu,rl,cl,U,L,t.T⟩:RH) with ru:=ru2,cu:=cu2,U:=Xd U (atL x to),rl:=rl2,cl:=cl2,L:=Ve L ⟨atL x to,e.a1,e.c1,e.a2,e.c2,e.r⟩ })) ⟨⟨by simp only; omega,rfl,rfl,Zcl hok (X:=[]) (e:=⟨atL x to,e.a1,e.c1,e.a2,e.c2,e.r⟩) hxt hre hfl (hok.k e hem),fun h=>absurd h h40,by rw [take_at hx]; exact JG hcf (Zc0 (t:=(⟨t.br,ru,cu,rl,cl,U,L,t.T⟩:RH)) hp hfl ru2 rl2 cu2 cl2)⟩,by simp only; omega⟩ ⟨rfl,rfl,rfl,rfl,rfl,trivial⟩ ⟨[0,1,2,5],by decide,rfl⟩
   refine (Zl Z (YL 2 (m:=L.length) (r:=rl) Z Tryz.underlying74 Xc Z Z (by omega) (by omega)) ?_)
   refine Zd 8 Z Z ⟨[0,1,2,3,4,5],by decide,rfl⟩ (Zf (Zc Z (Zb3 _))) ?_
   refine Za2 1 9 (Gv.bm 11 511) (Gv.bm 11 1021) Z Z Z Z (by kernel_rfl) (by kernel_rfl) (by kernel_rfl) (.inr ⟨[0,1,2,3,4,5],by decide,rfl⟩) ?_ ?_
   ·refine (Zl Z (Zq Tryz.underlying23 Z Yi Z (by exact ZF 3 (off:=0) (k:=3) Z Z) Z) ?_)
    refine ZL 9 Z (.inr ⟨[0,1,2,3,4,5],by decide,rfl⟩) (Zl Z (Zq Tryz.underlying26 Z Z4 Z (Jh 2 Z (YF keC 5 (fun _=>rfl) hei (j:=3) (n:=2) (by decide))) Z) ?_)
    refine ZL 10 Z (.inl (by kernel_rfl)) (Yj [0,1,2] [3,4,5] Z (vf:=[]) (vc:=[]) Z Z Tryz.call104 (by decide) Z (fun w how hc=>Zaw s room { (⟨t.br,ru,cu,rl,cl,U,L,t.T⟩:RH) with ru:=ru2,cu:=cu2,U:=Xd U (atL x to) } _ w hc hll ⟨atL x to,e.a1,e.c1,e.a2,e.c2,e.r⟩) ?_)
    rintro _ _ ⟨rfl,rl2,cl2,rfl⟩
    refine ZP (.inl (by kernel_rfl)) ?_
    refine ZI<|Ze<|Za<|gm Z rfl<|gr Z (by exact ZN (b:=1) Z Z (by omega)) ?_
    refine gas Z rfl<|ZM<|Ze ?_
    exact ZR ((k+1,{ (⟨t.br,ru,cu,rl,cl,U,L,t.T⟩:RH) with ru:=ru2,cu:=cu2,U:=Xd U (atL x to),rl:=rl2,cl:=cl2,L:=Ve L ⟨atL x to,e.a1,e.c1,e.a2,e.c2,e.r⟩ })) ⟨⟨by simp only; omega,rfl,rfl,Zcl hok (X:=[]) (e:=⟨atL x to,e.a1,e.c1,e.a2,e.c2,e.r⟩) hxt hre hfl (hok.k e hem),fun h=>absurd h h40,by rw [take_at hx]; exact JG hcf (Zc0 (t:=(⟨t.br,ru,cu,rl,cl,U,L,t.T⟩:RH)) hp hfl ru2 rl2 cu2 cl2)⟩,by simp only; omega⟩ ⟨rfl,rfl,rfl,rfl,rfl,trivial⟩ ⟨[0,1,2,5],by decide,rfl⟩
   refine (Zl Z (Zq Tryz.underlying26 Z Z4 Z (Jh 2 Z (YF keC 5 (fun _=>rfl) hei (j:=3) (n:=2) (by decide))) Z) ?_)
   refine ZL 1 Z (.inl (by kernel_rfl)) (Zl Z (Zq Tryz.underlying23 Z Yi Z (by exact ZF 3 (off:=0) (k:=3) Z Z) Z) ?_)
   refine ZL 10 Z (.inl (by kernel_rfl)) (Yj [0,1,2] [3,4,5] Z (vf:=[]) (vc:=[]) Z Z Tryz.call104 (by decide) Z (fun w how hc=>Zaw s room { (⟨t.br,ru,cu,rl,cl,U,L,t.T⟩:RH) with ru:=ru2,cu:=cu2,U:=Xd U (atL x to) } _ w hc hll ⟨atL x to,e.a1,e.c1,e.a2,e.c2,e.r⟩) ?_)
   rintro _ _ ⟨rfl,rl2,cl2,rfl⟩
   refine ZP (.inl (by kernel_rfl)) ?_
   refine ZI<|Ze<|Za<|gm Z rfl<|gr Z (by exact ZN (b:=1) Z Z (by omega)) ?_
   refine gas Z rfl<|ZM<|Ze ?_
   exact ZR ((k+1,{ (⟨t.br,ru,cu,rl,cl,U,L,t.T⟩:RH) with ru:=ru2,cu:=cu2,U:=Xd U (atL x to),rl:=rl2,cl:=cl2,L:=Ve L ⟨atL x to,e.a1,e.c1,e.a2,e.c2,e.r⟩ })) ⟨⟨by simp only; omega,rfl,rfl,Zcl hok (X:=[]) (e:=⟨atL x to,e.a1,e.c1,e.a2,e.c2,e.r⟩) hxt hre hfl (hok.k e hem),fun h=>absurd h h40,by rw [take_at hx]; exact JG hcf (Zc0 (t:=(⟨t.br,ru,cu,rl,cl,U,L,t.T⟩:RH)) hp hfl ru2 rl2 cu2 cl2)⟩,by simp only; omega⟩ ⟨rfl,rfl,rfl,rfl,rfl,trivial⟩ ⟨[0,1,2,5],by decide,rfl⟩
  refine gr Z (Zp Z Z)<|gA<|Zm rfl<|Z1<|Zt<|Zt<|ZE<|Ze<|Zb<|Za<|gas Z rfl<|gA<|Zu<|ZW (.inl Z) Tryz.results65 Z ⟨[0,1,2],by decide,rfl⟩ ?_
  have hft:frm=to:=Classical.not_not.1 h40
  obtain rfl:k=0:=hk0 hft
  unfold X2
  rw [if_neg (by omega),if_pos hft]
  exact ⟨rfl,(⟨t.br,ru,cu,rl,cl,U,L,t.T⟩:RH),[],rfl,rfl,rfl,hok,(Prod.mk.inj hcf).1.symm⟩
 refine gm Z rfl<|Zj Z Z rfl<|Zj Z Z rfl<|Zj Z Z rfl<|gr Z (Zn Z Z)<|gA<|Zm rfl<|Z1<|Zt<|Zt<|ZE<|Ze<|Zb<|Za<|gas Z rfl<|gA<|Zu<|ZW (.inl Z) Tryz.results65 Z ⟨[0,1,2],by decide,rfl⟩ ?_
 rw [List.take_of_length_le (by omega)] at hcf
 unfold X2
 rw [if_neg (by omega)]
 by_cases hft:frm=to
 ·obtain rfl:k=0:=hk0 hft
  rw [List.eq_nil_of_length_eq_zero (show (YD s.ds.length frm).length=0 by omega)] at hcf
  rw [if_pos hft]
  exact ⟨rfl,(⟨t.br,ru,cu,rl,cl,U,L,t.T⟩:RH),[],rfl,rfl,rfl,hok,(Prod.mk.inj hcf).1.symm⟩
 ·rw [if_neg hft,hcf]
  exact ⟨rfl,(⟨t.br,ru,cu,rl,cl,U,L,t.T⟩:RH),[],rfl,rfl,rfl,hok,rfl⟩
namespace Ip
section
variable {dm:List Deferred} {P:Program} {n:Nat} {e:Env} {w0:World} {S:List Nat} {l:List HL} {dst:Option Tmp} {ty:TypeId} {pos:String} {aft:Array Edge} {gd:Option (Nat × Bool)} {t ty':TypeId} {x y:Operand}
end
end Ip
open Ip
namespace Ip
section
variable {d r p1 p2 p3 p4 tc c:Nat} {ta:Option Nat}
end
end Ip
open Ip
namespace Ip
theorem Zfw (q:SS) (V:Ym) (n:Nat) (s:Org) (t:RS) (hst:PSt s q V n t.1 t.2) (S:List Nat) (w0:World) (hown:Own w0 S w0 q.hl) (hn:n+100<1000000) (bp:Nat) (hP:PsIn s bp q.bs w0 S) (x:Pis) (ss cs:List Int) (a1 a2:Option Addr) (c1 c2:Nat) (hl1:ss.length≤140737488355328) (hl2:cs.length≤140737488355328) (h1:OldSl w0 S a1 ss.length 1 (ss.map Xz)) (h2:OldSl w0 S a2 cs.length 1 (cs.map Xz)) (p:Rg) (e:Int) (he:Z7 s t x ss cs=(p,e)):Sp Tryz.prog 16 [.pointer (some ⟨bp,0,none⟩),Pis.val x,.agg #[.slice a1 ss.length c1,.slice a2 cs.length c2]] w0 S (fun v L=>∃ (r:Option Nat) (d:Nat) (r2:Option Nat) (d2:Nat),v=.tuple #[.agg #[.slice (rowA r) p.1.length d,.slice (rowA r2) p.2.length d2],.int .i64 e]∧L=.row 3 1 r p.1.length d (p.1.map natV) :: .row 3 1 r2 p.2.length d2 (p.2.map natV)::q.hl):=by
 refine (Zkl q V n (.inl hst.ok) S w0 hown (by omega) s bp hP x (fun hx r hk=>hst.rg hx hk) ss cs a1 a2 c1 c2 hl1 hl2 h1 h2).mono ?_
 rintro v L ⟨e9,p9,r,d,r2,d2,rfl,rfl,hpi⟩
 obtain ⟨rfl,rfl⟩:=Zit (t:=t) hst hpi
 rw [he]
 exact ⟨r,d,r2,d2,rfl,rfl⟩
theorem LitG_ok (q:SS) (V:Ym) (n:Nat) (s:Org) (t:RS) (hst:PSt s q V n t.1 t.2) (S:List Nat) (w0:World) (hown:Own w0 S w0 q.hl) (hn:n+100<1000000) (bp:Nat) (hP:PsIn s bp q.bs w0 S) (ss cs:List Int) (a1 a2:Option Addr) (c1 c2:Nat) (hl1:ss.length≤140737488355328) (hl2:cs.length≤140737488355328) (h1:OldSl w0 S a1 ss.length 1 (ss.map Xz)) (h2:OldSl w0 S a2 cs.length 1 (cs.map Xz)) (l:List Pis) (e:Int) (he:Wp s t ss cs=(l,e)):Sp Tryz.prog 18 [.pointer (some ⟨bp,0,none⟩),.agg #[.slice a1 ss.length c1,.slice a2 cs.length c2]] w0 S (fun v L=>∃ (r:Option Nat) (d:Nat),v=.tuple #[.slice (rowA r) l.length d,.int .i64 e]∧L=.row 23 3 r l.length d (l.flatMap Pis.cells)::q.hl):=by
 refine (Lit_okP q V n s t (.inl hst) S w0 hown hn bp hP ss cs a1 a2 c1 c2 hl1 hl2 h1 h2).mono ?_
 rintro v L ⟨e9,l9,r,d,rfl,rfl,hli⟩
 obtain ⟨rfl,rfl⟩:=lit_conv (t:=t) hst hli
 rw [he]
 exact ⟨r,d,rfl,rfl⟩
end Ip
open Ip
namespace Ip
end Ip
namespace Ip
theorem OrgIn.atT {s:Org} {w0 w:World} {S:List Nat} {A T:List HL} (h:OrgIn s w0 S) (ho:Own w0 S w (A++T)):OrgIn s w (T.filterMap HL.block) :=
  ⟨h.d.atT ho (by decide),h.r.atT ho (by decide),h.t.atT ho (by decide),h.c.atT ho (by decide),fun x hx=>(h.p x hx).atT ho (by decide)⟩
theorem OrgIn.atIn {s:Org} {w0 w:World} {S:List Nat} {l l':List HL} (h:OrgIn s w0 S) (ho:Own w0 S w l) (hl:∀ x∈l',x∈l):OrgIn s w (l'.filterMap HL.block) :=
  ⟨h.d.atIn ho (by decide) hl,h.r.atIn ho (by decide) hl,h.t.atIn ho (by decide) hl,h.c.atIn ho (by decide) hl,fun x hx=>(h.p x hx).atIn ho (by decide) hl⟩
theorem Zfx (s:Org) (c:Cl):Wy (clS s c)=Wy s:=rfl
theorem Zcm (s:Org) (c:Cl):Wk (clS s c)=Wk s:=rfl
theorem Zi0 (s:Org) (c:Cl):X2 (clS s c)=X2 s:=rfl
def PlayR (s:Org) (room:Nat) (t:RH) (q:SS) (n:Nat) (c:Cl) (v:Value) (L:List HL):Prop :=
  (v=.bool true∧∃ (t2:RH) (X:List HL) (q2:SS) (V2:Ym),L=t2.hd s room++(q2.hl++X)∧t2.br=t.br∧t2.T=X++t.T∧t2.Ok s room∧PSt (clS s c) q2 V2 (n+100) t2.st.1 t2.st.2∧q.Like q2) ∨
  (q.f.left≠-1∧(∃ b,v=.bool b)∧∃ (t2:RH) (X:List HL) (q2:SS) (V1 V2:Ym) (ta tb:RS),L=t2.hd s room++(q2.hl++X)∧t2.br=t.br∧t2.T=X++t.T∧t2.Ok s room∧q.Like q2∧q2.Torn (n+100) V1 V2∧PR s.ds.length s.ss.length s.cs.length V1 ta.1 ta.2∧PR s.ds.length s.ss.length s.cs.length V2 tb.1 tb.2∧Mid s.ds.length t.st.2 t2.st.2 ta.2∧Mid s.ds.length t.st.2 t2.st.2 tb.2∧ta.1.length+1≤room∧tb.1.length+1≤room)
section
variable {s:Org} {room:Nat} {t t2:RH} {q q2:SS} {V V2:Ym} {n:Nat} {c:Cl} {X:List HL} {st2:RS} {b:Bool}
theorem PlayR.same (ht:t.Ok s room) (hst:PSt (clS s c) q V n t.st.1 t.st.2) (hb:b=true):PlayR s room t q n c (.bool b) (t.hd s room++q.hl) :=
  .inl ⟨by rw [hb],t,[],q,V,by rw [List.append_nil],rfl,rfl,ht,hst.mono (by omega),SS.Like.refl q⟩
theorem PlayR.done (hbr:t2.br=t.br) (hT:t2.T=X++t.T) (hok:t2.Ok s room) (hlk:q.Like q2) {m:Nat} (hm:m≤n+100) (hst:PSt (clS s c) q2 V2 m st2.1 st2.2) (h9:t2.st=st2) (hb:b=true):PlayR s room t q n c (.bool b) (t2.hd s room++(q2.hl++X)) :=
  .inl ⟨by rw [hb],t2,X,q2,V2,rfl,hbr,hT,hok,by rw [h9]; exact hst.mono hm,hlk⟩
theorem PlayR.broke {V1:Ym} {ta tb:RS} (hbr:t2.br=t.br) (hT:t2.T=X++t.T) (hok:t2.Ok s room) (hlk:q.Like q2) {m:Nat} (hm:m≤n+100) (hl:q.f.left≠-1) (htn:q2.Torn m V1 V2) (h1:PR s.ds.length s.ss.length s.cs.length V1 ta.1 ta.2) (h2:PR s.ds.length s.ss.length s.cs.length V2 tb.1 tb.2) (h9:t2.st=st2) (hma:Mid s.ds.length t.st.2 st2.2 ta.2) (hmb:Mid s.ds.length t.st.2 st2.2 tb.2) (hfa:ta.1.length+1≤room) (hfb:tb.1.length+1≤room):PlayR s room t q n c (.bool b) (t2.hd s room++(q2.hl++X)) :=
  .inr ⟨hl,⟨b,rfl⟩,t2,X,q2,V1,V2,ta,tb,rfl,hbr,hT,hok,hlk,htn.mono hm,h1,h2,by rw [h9]; exact hma,by rw [h9]; exact hmb,hfa,hfb⟩
theorem Xq (hns:s.ss.length≤80) (hnc:s.cs.length≤24) (t:RS) (x:Pis) (ss cs:List Int):(Z7 s t x ss cs).1.1.length≤140737488355328∧(Z7 s t x ss cs).1.2.length≤140737488355328:=by
 unfold Z7
 split
 ·exact ⟨Nat.zero_le _,Nat.zero_le _⟩
 ·split
  ·exact ⟨Nat.zero_le _,Nat.zero_le _⟩
  ·split
   ·exact ⟨Nat.zero_le _,Nat.zero_le _⟩
   ·exact ⟨Nat.le_trans (Vx (Zcj s x _ _) hns) (by decide),Nat.le_trans (Vy (Zcj s x _ _) hnc) (by decide)⟩
theorem Zp8 (t:RS) (ss cs:List Int):(Wp s t ss cs).1.length≤t.2.length:=by
 unfold Wp
 split
 ·exact Nat.zero_le _
 ·rw [List.length_map]; exact List.length_filter_le _ _
end
end Ip
open Ip
theorem play_ok (s:Org) (hle:OrgLe s) (hck:(Yp s).2=0) (q:SS) (V:Ym) (n:Nat) (c:Cl) (t:RH) (ht:t.Ok s q.cap) (hst:PSt (clS s c) q V n t.st.1 t.st.2) (S:List Nat) (w0:World) (hown:Own w0 S w0 (t.hd s q.cap++q.hl)) (hn:n+100<1000000) (hS:OrgIn s w0 S) (bp:Nat) (hP:PsIn (clS s c) bp q.bs w0 S) (hk:∀ e∈t.L,KeIn e w0 S) (a:Ac) (hal:AcLe a) (ha:AcIn a w0 S):Sp Tryz.prog 24 [.pointer (some ⟨bp,0,none⟩),.pointer (some ⟨t.br,0,none⟩),Ac.val a] w0 S (PlayR s q.cap t q n c):=by
 have hnd:=ht.p.hnd
 have hns:=ht.p.hns
 have hnc:=ht.p.hnc
 have hll:=ht.lenL
 have hw9:=hal.w
 refine ZD Tryz.func24 Z Tryz.ntmps24 Z hown ?_
 simp only [ZU]
 refine Zb<|Za<|Zs (Z6 Z Z Z (fun b5=>?_))
 refine gas Z rfl<|gA<|Zb<|Zb<|Za<|gr Z (Zc Z (Zgs _))<|gr Z (Zi Tryz.underlying5 Z Z (by exact Zr 0 Z Z)) ?_
 refine gr Z (Zkx Z Z (by exact Int.natCast_nonneg _) (by omega)) ?_
 refine gA<|ZC<|Zb<|Zb<|Za<|gr Z (Ya Z Z) (Zw (fun h21=>?_) (fun h21=>?_))
 ·refine gas Z rfl<|gA<|Zk rfl<|Zv<|Ze<|Zk rfl<|Zb<|Za<|gm Z rfl<|gr Z (Zc Z (JP _))<|gr Z (Zq Tryz.underlying23 Z Yi Z (by exact ZF 0 (off:=1) (k:=3) Z Z) Z) ?_
  refine gr Z (Zc Z (VN _))<|gr Z (Zq Tryz.underlying26 Z Z4 Z (by exact ZF 0 (off:=4) (k:=2) Z Z) Z) ?_
  refine Zs (Yh [_,_,_,_] q.hl Z Z (vf:=[]) (vc:=[]) Z Z Tryz.call16 Z (fun w how hc=>Zfw q V n (clS s c) t.st hst _ w hc (by omega) bp (hP.out (A:=[_,_,_,_]) how) a.x a.ss a.cs _ _ _ _ hal.s hal.c (ha.s.atT (A:=[_,_,_,_]) how (by decide)) (ha.c.atT (A:=[_,_,_,_]) how (by decide)) (Z7 s t.st a.x a.ss a.cs).1 (Z7 s t.st a.x a.ss a.cs).2 Z) ?_)
  rintro _ _ ⟨r29,d29,s29,e29,rfl,rfl⟩
  refine gm Z rfl<|gr Z (ZA Z Z)<|gr Z (ZA Z Z)<|Zs (ZT Z4 Z Z (fun b7=>?_))
  refine Zs (Zz 0 Z4 Z Z Z Z Z Z (by rfl) ?_)
  refine gas Z rfl<|gA<|Zb<|Za<|gm Z rfl<|gr Z (Zc Z (JP _))<|gr Z (Zq Tryz.underlying23 Z Yi Z (by exact ZF 1 (off:=1) (k:=3) Z Z) Z) ?_
  refine gr Z (Zc Z (VN _))<|gr Z (Zq Tryz.underlying26 Z Z4 Z (by exact ZF 1 (off:=4) (k:=2) Z Z) Z) ?_
  refine Zs (ZJ Z (vf:=[]) (vc:=[]) Z Z Tryz.call63 (fun w1 ho=>Zcz s hle hck q.cap t ht w1 (hS.at ho) ⟨ho.blkCells 2 rfl,by simp,ho.rowSl 3 rfl,ho.rowSl 4 rfl,fun e he=>(hk e he).at ho⟩ a.x a.ss a.cs _ _ _ _ hal.s hal.c (ha.s.at ho) (ha.c.at ho)) ?_)
  rintro _ _ ⟨r38,d38,s38,e38,rfl,rfl⟩
  refine gm Z rfl<|gr Z (ZA Z Z)<|gr Z (ZA Z Z)<|Zs (ZT Z4 Z Z (fun b9=>?_))
  refine Zs (Zz 0 Z4 Z Z Z Z Z Z (by rfl) ?_)
  refine gas Z rfl<|gA<|Zb<|Za<|gr Z (Zq Tryz.underlying26 Z Z4 Z (by exact ZF 3 (off:=0) (k:=2) Z Z) Z) ?_
  refine gr Z (Zq Tryz.underlying26 Z Z4 Z (by exact ZF 0 (off:=0) (k:=2) Z Z) Z) ?_
  refine Zs (ZJ Z (vf:=[]) (vc:=[]) Z Z Tryz.call32 (fun w1 ho=>JF (Z7 s t.st a.x a.ss a.cs).1 (Z7 s t.st a.x a.ss a.cs).1 _ _ _ _ _ _ _ _ (Xq hns hnc _ _ _ _).1 (Xq hns hnc _ _ _ _).2 w1 (ho.rowSl 8 Z) (ho.rowSl 9 Z) (ho.rowSl 1 Z) (ho.rowSl 2 Z)) ?_)
  rintro _ _ ⟨rfl,rfl⟩
  rw [decide_eq_true (rfl:(Z7 s t.st a.x a.ss a.cs).1.1=(Z7 s t.st a.x a.ss a.cs).1.1),decide_eq_true (rfl:(Z7 s t.st a.x a.ss a.cs).1.2=(Z7 s t.st a.x a.ss a.cs).1.2)]
  refine gm Z rfl<|Zg Z rfl<|Zl Z (Zo Z)<|Zg Z rfl<|Zl Z (Zo Z)<|Zg Z rfl<|Zl Z (Ya Z Z)<|gr Z (Zp Z Z)<|gas Z rfl<|gA<|Zu<|Zx<|Zh<|ZW (.inl Z) Tryz.results24 Z (ZS (A:=[_,_,_]) (B:=[_,_,_,_,_,_,_,_,_,_]) (T:=q.hl) [5,6,7] 10 (by decide) (by decide) Z Z) ?_
  exact PlayR.same ht hst (decide_eq_true rfl)
 refine gas Z rfl<|gA<|Zm rfl<|Za<|gr Z (Ya Z Z) (Zw (fun h22=>?_) (fun h22=>?_))
 ·refine gas Z rfl<|gA<|Zk rfl<|Zb<|Za<|gm Z rfl<|gr Z (Zc Z (JP _))<|gr Z (Zq Tryz.underlying23 Z Yi Z (by exact ZF 0 (off:=1) (k:=3) Z Z) Z) ?_
  refine gr Z (Zc Z (VN _))<|gr Z (Zq Tryz.underlying26 Z Z4 Z (by exact ZF 0 (off:=4) (k:=2) Z Z) Z) ?_
  refine Zs (Yh [_,_,_,_] q.hl Z Z (vf:=[]) (vc:=[]) Z Z Tryz.call16 Z (fun w how hc=>Zfw q V n (clS s c) t.st hst _ w hc (by omega) bp (hP.out (A:=[_,_,_,_]) how) a.x a.ss a.cs _ _ _ _ hal.s hal.c (ha.s.atT (A:=[_,_,_,_]) how (by decide)) (ha.c.atT (A:=[_,_,_,_]) how (by decide)) (Z7 s t.st a.x a.ss a.cs).1 (Z7 s t.st a.x a.ss a.cs).2 Z) ?_)
  rintro _ _ ⟨r29,d29,s29,e29,rfl,rfl⟩
  refine gm Z rfl<|gr Z (ZA Z Z)<|gr Z (ZA Z Z)<|Zs (ZT Z4 Z Z (fun b7=>?_))
  refine Zs (Zz 0 Z4 Z Z Z Z Z Z (by rfl) ?_)
  refine gas Z rfl<|gA<|Zb<|Za<|gm Z rfl<|gr Z (Zc Z (JP _))<|gr Z (Zq Tryz.underlying23 Z Yi Z (by exact ZF 1 (off:=1) (k:=3) Z Z) Z) ?_
  refine gr Z (Zc Z (VN _))<|gr Z (Zq Tryz.underlying26 Z Z4 Z (by exact ZF 1 (off:=4) (k:=2) Z Z) Z) ?_
  refine Zs (ZJ Z (vf:=[]) (vc:=[]) Z Z Tryz.call63 (fun w1 ho=>Zcz s hle hck q.cap t ht w1 (hS.at ho) ⟨ho.blkCells 2 rfl,by simp,ho.rowSl 3 rfl,ho.rowSl 4 rfl,fun e he=>(hk e he).at ho⟩ a.x a.ss a.cs _ _ _ _ hal.s hal.c (ha.s.at ho) (ha.c.at ho)) ?_)
  rintro _ _ ⟨r38,d38,s38,e38,rfl,rfl⟩
  refine gm Z rfl<|gr Z (ZA Z Z)<|gr Z (ZA Z Z)<|Zs (ZT Z4 Z Z (fun b9=>?_))
  refine Zs (Zz 0 Z4 Z Z Z Z Z Z (by rfl) ?_)
  refine gas Z rfl<|gA<|Zb<|Za<|gr Z (Zq Tryz.underlying26 Z Z4 Z (by exact ZF 3 (off:=0) (k:=2) Z Z) Z) ?_
  refine gr Z (Zq Tryz.underlying26 Z Z4 Z (by exact ZF 0 (off:=0) (k:=2) Z Z) Z) ?_
  refine Zs (ZJ Z (vf:=[]) (vc:=[]) Z Z Tryz.call32 (fun w1 ho=>JF (Z7 s t.st a.x a.ss a.cs).1 (Z7 s t.st a.x a.ss a.cs).1 _ _ _ _ _ _ _ _ (Xq hns hnc _ _ _ _).1 (Xq hns hnc _ _ _ _).2 w1 (ho.rowSl 8 Z) (ho.rowSl 9 Z) (ho.rowSl 1 Z) (ho.rowSl 2 Z)) ?_)
  rintro _ _ ⟨rfl,rfl⟩
  rw [decide_eq_true (rfl:(Z7 s t.st a.x a.ss a.cs).1.1=(Z7 s t.st a.x a.ss a.cs).1.1),decide_eq_true (rfl:(Z7 s t.st a.x a.ss a.cs).1.2=(Z7 s t.st a.x a.ss a.cs).1.2)]
  refine gm Z rfl<|Zg Z rfl<|Zl Z (Zo Z)<|Zg Z rfl<|Zl Z (Zo Z)<|Zg Z rfl<|Zl Z (Ya Z Z)<|gr Z (Zp Z Z)<|gas Z rfl<|gA<|Zu<|Zx<|Zh<|ZW (.inl Z) Tryz.results24 Z (ZS (A:=[_,_,_]) (B:=[_,_,_,_,_,_,_,_,_,_]) (T:=q.hl) [5,6,7] 10 (by decide) (by decide) Z Z) ?_
  exact PlayR.same ht hst (decide_eq_true rfl)
 refine gas Z rfl<|gA<|Zm rfl<|Zb<|Za<|gr Z (Ya Z Z) (Zw (fun h50=>?_) (fun h50=>?_))
 ·refine gas Z rfl<|gA<|Zk rfl<|Zb<|ZO [0] true 9 rfl<|Zd 0 Z Z ⟨[0],by decide,rfl⟩ (Zf (Zo Z)) ?_
  refine Zd 1 Z Z ⟨[0],by decide,rfl⟩ (Zf (Zc Z (JP _))) ?_
  refine Zd 2 Z Z ⟨[0],by decide,rfl⟩ (Zf (Zq Tryz.underlying23 Z Yi Z (by exact ZF 0 (off:=1) (k:=3) Z Z) Z)) ?_
  refine Zd 4 Z Z ⟨[0],by decide,rfl⟩ (Zf (Zo Z)) ?_
  refine Zd 5 Z Z ⟨[0],by decide,rfl⟩ (Zf (Zc Z (JP _))) ?_
  refine Zd 6 Z Z ⟨[0],by decide,rfl⟩ (Zf (Zq Tryz.underlying23 Z Yi Z (by exact ZF 0 (off:=1) (k:=3) Z Z) Z)) ?_
  refine ZL 3 Z (.inr ⟨[0],by decide,rfl⟩) (Yh [_,_,_,_] q.hl Z Z (vf:=[]) (vc:=[]) Z Z Tryz.call20 Z (fun w how hc=>(Zsr q V n (.inl hst.ok) _ w hc (by omega) (clS s c) bp (hP.out (A:=[_,_,_,_]) how) a.x).mono (fun v L h=>Zp5 (t:=t.st) hst h)) ?_)
  rintro _ _ (⟨q2,V2,rfl,hlk,hst2,rfl⟩ | ⟨he0,rfl,hlf,q2,V1,V2,rfl,hlk,htn,hp1,hp2⟩)
  ·rw [Zcm] at hst2
   rw [Zcm]
   refine ZL 7 Z (.inr ⟨[0],by decide,rfl⟩) (Ys [_,_,_,_] q2.hl [1,2,3] [0] 4 Z Z Z (vf:=[]) (vc:=[]) Z Z Tryz.call64 (by decide) (by decide) Z (fun w how hc=>Zkv s q.cap t ht _ w hc a.x) ?_)
   rintro _ _ ⟨rfl,t2,X,rfl,hbr,hT,hok,hst9⟩
   refine Zco [_,_,_] X [_] q2.hl<|Zd 8 Z Z ⟨[3],by decide,rfl⟩ (Zf (Ya Z Z)) ?_
   refine Zd 9 Z Z ⟨[3],by decide,rfl⟩ (Zf (ZY Z)) ?_
   refine ZP (.inr ⟨[3],by decide,rfl⟩) ?_
   refine Ze<|Zu<|Zx<|Zh<|ZW (.inl Z) Tryz.results24 Z (ZS (A:=[_,_,_]) (B:=[_,_,_,_]) (T:=(q2.hl++X)) [0,1,2] 4 (by decide) (by decide) Z Z) ?_
   exact PlayR.done hbr hT hok hlk (by omega) hst2 hst9 (decide_eq_true rfl)
  rw [Zcm] at hp2
  refine ZL 7 Z (.inr ⟨[0],by decide,rfl⟩) (Ys [_,_,_,_] q2.hl [1,2,3] [0] 4 Z Z Z (vf:=[]) (vc:=[]) Z Z Tryz.call64 (by decide) (by decide) Z (fun w how hc=>Zkv s q.cap t ht _ w hc a.x) ?_)
  rintro _ _ ⟨rfl,t2,X,rfl,hbr,hT,hok,hst9⟩
  refine Zco [_,_,_] X [_] q2.hl<|Zd 8 Z Z ⟨[3],by decide,rfl⟩ (Zf (Ya Z Z)) ?_
  refine Zd 9 Z Z ⟨[3],by decide,rfl⟩ (Zf (ZY Z)) ?_
  refine ZP (.inr ⟨[3],by decide,rfl⟩) ?_
  refine Ze<|Zu<|Zx<|Zh<|ZW (.inl Z) Tryz.results24 Z (ZS (A:=[_,_,_]) (B:=[_,_,_,_]) (T:=(q2.hl++X)) [0,1,2] 4 (by decide) (by decide) Z Z) ?_
  exact PlayR.broke hbr hT hok hlk (by omega) hlf htn hp1 hp2 hst9 (Mid.left _ _ _) (Mid.right _ _ _) ht.p.full (by rw [← hst9]; exact hok.p.full)
 refine gas Z rfl<|gA<|Zm rfl<|Zb<|Za<|gr Z (Ya Z Z) (Zw (fun h61=>?_) (fun h61=>?_))
 ·refine gas Z rfl<|gA<|Zk rfl<|Zb<|ZO [0] true 13 rfl<|Zd 0 Z Z ⟨[0],by decide,rfl⟩ (Zf (Zo Z)) ?_
  refine Zd 1 Z Z ⟨[0],by decide,rfl⟩ (Zf (Zc Z (Zqi _))) ?_
  refine Zd 2 Z Z ⟨[0],by decide,rfl⟩ (Zf (Zi Tryz.underlying3 Z Z (by exact Zr 0 Z Z))) ?_
  refine Zd 3 Z Z ⟨[0],by decide,rfl⟩ (Zf (Zc Z (Zqj _))) ?_
  refine Zd 4 Z Z ⟨[0],by decide,rfl⟩ (Zf (Zi Tryz.underlying3 Z Z (by exact Zr 0 Z Z))) ?_
  refine Zd 6 Z Z ⟨[0],by decide,rfl⟩ (Zf (Zo Z)) ?_
  refine Zd 7 Z Z ⟨[0],by decide,rfl⟩ (Zf (Zc Z (Zqi _))) ?_
  refine Zd 8 Z Z ⟨[0],by decide,rfl⟩ (Zf (Zi Tryz.underlying3 Z Z (by exact Zr 0 Z Z))) ?_
  refine Zd 9 Z Z ⟨[0],by decide,rfl⟩ (Zf (Zc Z (Zqj _))) ?_
  refine Zd 10 Z Z ⟨[0],by decide,rfl⟩ (Zf (Zi Tryz.underlying3 Z Z (by exact Zr 0 Z Z))) ?_
  refine ZL 5 Z (.inr ⟨[0],by decide,rfl⟩) (Yh [_,_,_,_] q.hl Z Z (vf:=[]) (vc:=[]) Z Z Tryz.call21 Z (fun w how hc=>(Copy_okP q V n (clS s c) t.st (.inl hst) _ w hc (by omega) bp (hP.out (A:=[_,_,_,_]) how) a.frm a.to).mono (fun v L h=>Zst (t:=t.st) hst h)) ?_)
  rintro _ _ (⟨q2,V2,rfl,hlk,hst2,rfl⟩ | ⟨⟨hc1,hc2,hc3,hc4,hc5⟩,i9,ta,tb,hi9,hca,hcb,rfl,hlf,q2,V1,V2,rfl,hlk,htn,hp1,hp2⟩)
  ·rw [Zi0] at hst2
   rw [Zi0]
   refine ZL 11 Z (.inr ⟨[0],by decide,rfl⟩) (Ys [_,_,_,_] q2.hl [1,2,3] [0] 4 Z Z Z (vf:=[]) (vc:=[]) Z Z Tryz.call65 (by decide) (by decide) Z (fun w how hc=>Zop s q.cap t ht _ w hc a.frm a.to) ?_)
   rintro _ _ ⟨rfl,t2,X,rfl,hbr,hT,hok,hst9⟩
   refine Zco [_,_,_] X [_] q2.hl<|Zd 12 Z Z ⟨[3],by decide,rfl⟩ (Zf (Ya Z Z)) ?_
   refine Zd 13 Z Z ⟨[3],by decide,rfl⟩ (Zf (ZY Z)) ?_
   refine ZP (.inr ⟨[3],by decide,rfl⟩) ?_
   refine Ze<|Zu<|Zx<|Zh<|ZW (.inl Z) Tryz.results24 Z (ZS (A:=[_,_,_]) (B:=[_,_,_,_]) (T:=(q2.hl++X)) [0,1,2] 4 (by decide) (by decide) Z Z) ?_
   exact PlayR.done hbr hT hok hlk (by omega) hst2 hst9 (decide_eq_true rfl)
  refine ZL 11 Z (.inr ⟨[0],by decide,rfl⟩) (Ys [_,_,_,_] q2.hl [1,2,3] [0] 4 Z Z Z (vf:=[]) (vc:=[]) Z Z Tryz.call65 (by decide) (by decide) Z (fun w how hc=>Zop s q.cap t ht _ w hc a.frm a.to) ?_)
  rintro _ _ ⟨rfl,t2,X,rfl,hbr,hT,hok,hst9⟩
  refine Zco [_,_,_] X [_] q2.hl<|Zd 12 Z Z ⟨[3],by decide,rfl⟩ (Zf (Ya Z Z)) ?_
  refine Zd 13 Z Z ⟨[3],by decide,rfl⟩ (Zf (ZY Z)) ?_
  refine ZP (.inr ⟨[3],by decide,rfl⟩) ?_
  refine Ze<|Zu<|Zx<|Zh<|ZW (.inl Z) Tryz.results24 Z (ZS (A:=[_,_,_]) (B:=[_,_,_,_]) (T:=(q2.hl++X)) [0,1,2] 4 (by decide) (by decide) Z Z) ?_
  exact PlayR.broke hbr hT hok hlk (Nat.le_refl _) hlf htn hp1 hp2 hst9 (Zol hc1 hc2 hc5 hc3 hc4 ht.p.srt hca rfl) (Zol hc1 hc2 hc5 hc3 hc4 ht.p.srt hcb rfl) (by have h:=Zdp (to:=a.to) ((YD s.ds.length a.frm).take i9) t.st ht.p.full; rw [hca] at h; exact h) (by have h:=Zdp (to:=a.to) ((YD s.ds.length a.frm).take (i9+1)) t.st ht.p.full; rw [hcb] at h; exact h)
 refine gas Z rfl<|gA<|Zm rfl<|Zb<|Za<|gr Z (Ya Z Z) (Zw (fun h76=>?_) (fun h76=>?_))
 ·refine gas Z rfl<|gA<|Zk rfl<|Zb<|Za<|gm Z rfl<|Zs (Yh [_,_,_,_] q.hl Z Z (vf:=[]) (vc:=[]) Z Z Tryz.call17 Z (fun w how hc=>List_okP q V n (clS s c) t.st (.inl hst) _ w hc (by omega) bp (hP.out (A:=[_,_,_,_]) how)) ?_)
  rintro _ _ ⟨rL1,cL1,rfl,rfl⟩
  rw [if_pos hst.ok.zero,hst.ok.zero]
  rw [show t.st.2.map (·.1)=t.L.map KE.x from prs_map t.L]
  refine gm Z rfl<|gr Z (ZA Z Z)<|gr Z (ZA Z Z)<|gas Z rfl<|gas Z rfl<|gA<|Zb<|Za<|gm Z rfl<|gr Z (Zc Z (VN _))<|gr Z (Zq Tryz.underlying26 Z Z4 Z (by exact ZF 0 (off:=4) (k:=2) Z Z) Z) ?_
  refine Zs (Yh [_,_,_,_,_] q.hl Z Z (vf:=[]) (vc:=[]) Z Z Tryz.call18 Z (fun w how hc=>LitG_ok q V n (clS s c) t.st hst _ w hc (by omega) bp (hP.out (A:=[_,_,_,_,_]) how) a.ss a.cs _ _ _ _ hal.s hal.c (ha.s.atT (A:=[_,_,_,_,_]) how (by decide)) (ha.c.atT (A:=[_,_,_,_,_]) how (by decide)) (Wp s t.st a.ss a.cs).1 (Wp s t.st a.ss a.cs).2 Z) ?_)
  rintro _ _ ⟨rL2,dL2,rfl,rfl⟩
  refine gm Z rfl<|gr Z (ZA Z Z)<|gr Z (ZA Z Z)<|gas Z rfl<|gas Z rfl<|gA<|Zb<|Za<|gm Z rfl<|gr Z (Zc Z (VN _))<|gr Z (Zq Tryz.underlying26 Z Z4 Z (by exact ZF 0 (off:=4) (k:=2) Z Z) Z) ?_
  refine Zs (ZJ Z (vf:=[]) (vc:=[]) Z Z Tryz.call66 (fun w1 ho=>rLit_ok s hle hck q.cap t ht w1 (hS.at ho) ⟨ho.blkCells 1 rfl,by simp,ho.rowSl 2 rfl,ho.rowSl 3 rfl,fun e he=>(hk e he).at ho⟩ a.ss a.cs _ _ _ _ hal.s hal.c (ha.s.at ho) (ha.c.at ho)) ?_)
  rintro _ _ ⟨rL3,dL3,rfl,rfl⟩
  refine gm Z rfl<|gr Z (ZA Z Z)<|gr Z (ZA Z Z)<|gas Z rfl<|gas Z rfl<|gA<|Zb<|Za<|gm Z rfl<|gm Z rfl<|Zs (ZJ Z (vf:=[]) (vc:=[]) Z Z Tryz.call67 (fun w1 ho=>rList_ok s q.cap t ht w1 ⟨ho.blkCells 2 rfl,by simp,ho.rowSl 3 rfl,ho.rowSl 4 rfl,fun e he=>(hk e he).at ho⟩) ?_)
  rintro _ _ ⟨rL4,dL4,rfl,rfl⟩
  refine Zs (ZJ Z (vf:=[]) (vc:=[]) Z Z Tryz.call33 (fun w1 ho=>Zrd (t.L.map KE.x) (t.L.map KE.x) _ _ _ _ (by rw [List.length_map]; omega) w1 (ho.rowSl 6 Z) (ho.rowSl 0 Z)) ?_)
  rintro _ _ ⟨rfl,rfl⟩
  rw [decide_eq_true (rfl:t.L.map KE.x=t.L.map KE.x)]
  refine gm Z rfl<|Zg Z rfl<|Zl Z (Zo Z)<|Zg Z Z (Zl Z (Ya Z Z) (Zw (fun h102=>?_) (fun h102=>?_)))
  ·refine gr Z (Zp Z Z)<|gm Z rfl<|Zg Z rfl<|Zl Z (Zo Z)<|Zg Z rfl<|Zl Z (Zo Z)<|Zg Z Z (ZJ Z (vf:=[]) (vc:=[]) Z Z Tryz.call33 (fun w1 ho=>Zrd (Wp s t.st a.ss a.cs).1 (Wp s t.st a.ss a.cs).1 _ _ _ _ (Nat.le_trans (Zp8 _ _ _) (by show (prs t.L).length≤_; rw [List.length_map]; omega)) w1 (ho.rowSl 7 Z) (ho.rowSl 1 Z)) ?_)
   rintro _ _ ⟨rfl,rfl⟩
   rw [decide_eq_true (rfl:(Wp s t.st a.ss a.cs).1=(Wp s t.st a.ss a.cs).1)]
   refine gr Z (Zp Z Z)<|gm Z rfl<|Zg Z rfl<|Zl Z (Zo Z)<|Zg Z rfl<|Zl Z (Zo Z)<|Zg Z rfl<|Zl Z (Ya Z Z)<|gr Z (Zp Z Z)<|gas Z rfl<|gA<|Zu<|Zx<|Zh<|ZW (.inl Z) Tryz.results24 Z (ZS (A:=[_,_,_]) (B:=[_,_,_,_,_,_,_,_]) (T:=q.hl) [3,4,5] 8 (by decide) (by decide) Z Z) ?_
   exact PlayR.same ht hst (decide_eq_true rfl)
  exact absurd rfl h102
 refine gas Z rfl<|gA<|Zm rfl<|Zv<|ZI<|Ze<|Zb<|ZO [0] true 13 rfl<|Zd 0 Z Z ⟨[0],by decide,rfl⟩ (Zf (Zo Z)) ?_
 refine Zd 1 Z Z ⟨[0],by decide,rfl⟩ (Zf (Zc Z (JP _))) ?_
 refine Zd 2 Z Z ⟨[0],by decide,rfl⟩ (Zf (Zq Tryz.underlying23 Z Yi Z (by exact ZF 0 (off:=1) (k:=3) Z Z) Z)) ?_
 refine Zd 3 Z Z ⟨[0],by decide,rfl⟩ (Zf (Zc Z (VN _))) ?_
 refine Zd 4 Z Z ⟨[0],by decide,rfl⟩ (Zf (Zq Tryz.underlying26 Z Z4 Z (by exact ZF 0 (off:=4) (k:=2) Z Z) Z)) ?_
 refine Zd 6 Z Z ⟨[0],by decide,rfl⟩ (Zf (Zo Z)) ?_
 refine Zd 7 Z Z ⟨[0],by decide,rfl⟩ (Zf (Zc Z (JP _))) ?_
 refine Zd 8 Z Z ⟨[0],by decide,rfl⟩ (Zf (Zq Tryz.underlying23 Z Yi Z (by exact ZF 0 (off:=1) (k:=3) Z Z) Z)) ?_
 refine Zd 9 Z Z ⟨[0],by decide,rfl⟩ (Zf (Zc Z (VN _))) ?_
 refine Zd 10 Z Z ⟨[0],by decide,rfl⟩ (Zf (Zq Tryz.underlying26 Z Z4 Z (by exact ZF 0 (off:=4) (k:=2) Z Z) Z)) ?_
 refine ZL 5 Z (.inr ⟨[0],by decide,rfl⟩) (Yh [_,_,_,_] q.hl Z Z (vf:=[]) (vc:=[]) Z Z Tryz.call19 Z (fun w how hc=>(Zra q V n (.inl hst.ok) _ w hc (by omega) (clS s c) bp (hP.out (A:=[_,_,_,_]) how) a.x a.ss a.cs _ _ _ _ hal.s hal.c (ha.s.atT (A:=[_,_,_,_]) how (by decide)) (ha.c.atT (A:=[_,_,_,_]) how (by decide))).mono (fun v L h=>Zod (t:=t.st) hst h)) ?_)
 rintro _ _ (⟨q2,V2,rfl,hlk,hst2,rfl⟩ | ⟨he0,rfl,hlf,q2,V1,V2,rfl,hlk,htn,hp1,hp2⟩)
 ·rw [Zfx] at hst2
  rw [Zfx]
  refine ZL 11 Z (.inr ⟨[0],by decide,rfl⟩) (Ys [_,_,_,_] q2.hl [1,2,3] [0] 4 Z Z Z (vf:=[]) (vc:=[]) Z Z Tryz.call68 (by decide) (by decide) Z (fun w how hc=>Zrj s hle hck q.cap t ht _ w hc (OrgIn.atIn hS how Zcy) a.x a.ss a.cs _ _ _ _ hal.s hal.c (ha.s.atIn how (by decide) Zcy) (ha.c.atIn how (by decide) Zcy)) ?_)
  rintro _ _ ⟨rfl,t2,X,rfl,hbr,hT,hok,hst9⟩
  refine Zco [_,_,_] X [_] q2.hl<|Zd 12 Z Z ⟨[3],by decide,rfl⟩ (Zf (Ya Z Z)) ?_
  refine Zd 13 Z Z ⟨[3],by decide,rfl⟩ (Zf (ZY Z)) ?_
  refine ZP (.inr ⟨[3],by decide,rfl⟩) ?_
  refine Ze<|Zu<|ZW (.inl Z) Tryz.results24 Z (ZS (A:=[_,_,_]) (B:=[_,_,_,_]) (T:=(q2.hl++X)) [0,1,2] 4 (by decide) (by decide) Z Z) ?_
  exact PlayR.done hbr hT hok hlk (by omega) hst2 hst9 (decide_eq_true rfl)
 rw [Zfx] at hp2
 refine ZL 11 Z (.inr ⟨[0],by decide,rfl⟩) (Ys [_,_,_,_] q2.hl [1,2,3] [0] 4 Z Z Z (vf:=[]) (vc:=[]) Z Z Tryz.call68 (by decide) (by decide) Z (fun w how hc=>Zrj s hle hck q.cap t ht _ w hc (OrgIn.atIn hS how Zcy) a.x a.ss a.cs _ _ _ _ hal.s hal.c (ha.s.atIn how (by decide) Zcy) (ha.c.atIn how (by decide) Zcy)) ?_)
 rintro _ _ ⟨rfl,t2,X,rfl,hbr,hT,hok,hst9⟩
 refine Zco [_,_,_] X [_] q2.hl<|Zd 12 Z Z ⟨[3],by decide,rfl⟩ (Zf (Ya Z Z)) ?_
 refine Zd 13 Z Z ⟨[3],by decide,rfl⟩ (Zf (ZY Z)) ?_
 refine ZP (.inr ⟨[3],by decide,rfl⟩) ?_
 refine Ze<|Zu<|ZW (.inl Z) Tryz.results24 Z (ZS (A:=[_,_,_]) (B:=[_,_,_,_]) (T:=(q2.hl++X)) [0,1,2] 4 (by decide) (by decide) Z Z) ?_
 exact PlayR.broke hbr hT hok hlk (by omega) hlf htn hp1 hp2 hst9 (Mid.left _ _ _) (Mid.right _ _ _) ht.p.full (by rw [← hst9]; exact hok.p.full)
namespace Ip
def PlayT (s:Org) (room:Nat) (t:RH) (q:SS) (n:Nat) (c:Cl) (v:Value) (L:List HL):Prop :=
  (v=.bool true∧∃ (t2:RH) (q2:SS) (V2:Ym),L=t2.hd s room++(q2.hl++t2.T)∧t2.br=t.br∧(∀ x∈t.T,x∈t2.T)∧t2.Ok s room∧PSt (clS s c) q2 V2 (n+100) t2.st.1 t2.st.2∧q.Like q2) ∨
  (q.f.left≠-1∧(∃ b,v=.bool b)∧∃ (t2:RH) (q2:SS) (V1 V2:Ym) (ta tb:RS),L=t2.hd s room++(q2.hl++t2.T)∧t2.br=t.br∧(∀ x∈t.T,x∈t2.T)∧t2.Ok s room∧q.Like q2∧q2.Torn (n+100) V1 V2∧PR s.ds.length s.ss.length s.cs.length V1 ta.1 ta.2∧PR s.ds.length s.ss.length s.cs.length V2 tb.1 tb.2∧Mid s.ds.length t.st.2 t2.st.2 ta.2∧Mid s.ds.length t.st.2 t2.st.2 tb.2∧ta.1.length+1≤room∧tb.1.length+1≤room)
theorem KeM.tail {w0:World} {S:List Nat} {T l1:List HL} {e:KE} (h:KeM T e) (ho:Own w0 S w0 (T++l1)):KeIn e w0 (l1.filterMap HL.block):=by
 have h1:∀ {a:Option Addr} {k:List Nat},SlM T a k→OldSl w0 (l1.filterMap HL.block) a k.length 1 (k.map natV):=fun {a k} ⟨r,c,h2,h3⟩=>by
  subst h2
  obtain ⟨i,hi⟩:=List.getElem?_of_mem h3
  exact ho.rowSlT i hi
 exact ⟨h1 h.1,h1 h.2⟩
theorem Zoq (s:Org) (hle:OrgLe s) (hck:(Yp s).2=0) (q:SS) (V:Ym) (n:Nat) (c:Cl) (t:RH) (room:Nat) (hroom:q.cap=room) (ht:t.Ok s room) (hst:PSt (clS s c) q V n t.st.1 t.st.2) (S:List Nat) (w0:World) (hown:Own w0 S w0 (t.hd s room++(q.hl++t.T))) (hn:n+100<1000000) (hS:OrgIn s w0 S) (bp:Nat) (hP:PsIn (clS s c) bp q.bs w0 S) (a:Ac) (hal:AcLe a) (ha:AcIn a w0 S):Sp Tryz.prog 24 [.pointer (some ⟨bp,0,none⟩),.pointer (some ⟨t.br,0,none⟩),Ac.val a] w0 S (PlayT s room t q n c):=by
 subst hroom
 have hown2:Own w0 S w0 ((t.hd s q.cap++q.hl)++t.T):=by rw [List.append_assoc]; exact hown
 have hown3:=hown2.sub (Zdv (t.hd s q.cap++q.hl) t.T)
 have hin:∀ x∈t.hd s q.cap++q.hl,x∈(t.hd s q.cap++q.hl)++t.T:=fun x hx=>List.mem_append_left _ hx
 refine (Sp.frame hown2 fun ho=>play_ok s hle hck q V n c t ht hst _ w0 ho hn (OrgIn.atIn hS hown2 hin) bp (hP.out hown3) (fun e he=>(ht.k e he).tail hown3) a hal ⟨ha.s.atIn hown2 (by decide) hin,ha.c.atIn hown2 (by decide) hin⟩).mono ?_
 rintro v L ⟨L1,h,rfl⟩
 rcases h with ⟨rfl,t2,X,q2,V2,rfl,hbr,hT,hok,hst2,hlk⟩ | ⟨hl,hb,t2,X,q2,V1,V2,ta,tb,rfl,hbr,hT,hok,hlk,htn,h1,h2,h3,h4,h5,h6⟩
 ·exact .inl ⟨rfl,t2,q2,V2,by rw [hT]; simp only [List.append_assoc],hbr,(fun x hx=>by rw [hT]; exact List.mem_append_right X hx),hok,hst2,hlk⟩
 ·exact .inr ⟨hl,hb,t2,q2,V1,V2,ta,tb,by rw [hT]; simp only [List.append_assoc],hbr,(fun x hx=>by rw [hT]; exact List.mem_append_right X hx),hok,hlk,htn,h1,h2,h3,h4,h5,h6⟩
theorem playD_ok (s:Org) (hle:OrgLe s) (hck:(Yp s).2=0) (q:SS) (V:Ym) (n:Nat) (c:Cl) (t:RH) (room:Nat) (hroom:q.cap=room) (hlf:q.f.left = -1) (ht:t.Ok s room) (hst:PSt (clS s c) q V n t.st.1 t.st.2) (S:List Nat) (w0:World) (hown:Own w0 S w0 (t.hd s room++(q.hl++t.T))) (hn:n+100<1000000) (hS:OrgIn s w0 S) (bp:Nat) (hP:PsIn (clS s c) bp q.bs w0 S) (a:Ac) (hal:AcLe a) (ha:AcIn a w0 S):Sp Tryz.prog 24 [.pointer (some ⟨bp,0,none⟩),.pointer (some ⟨t.br,0,none⟩),Ac.val a] w0 S (fun v L=>v=.bool true∧∃ (t2:RH) (q2:SS) (V2:Ym),L=t2.hd s room++(q2.hl++t2.T)∧t2.br=t.br∧(∀ x∈t.T,x∈t2.T)∧t2.Ok s room∧PSt (clS s c) q2 V2 (n+100) t2.st.1 t2.st.2∧q.Like q2) :=
  (Zoq s hle hck q V n c t room hroom ht hst S w0 hown hn hS bp hP a hal ha).mono fun v L h=>h.resolve_right fun h=>h.1 hlf
theorem reopen {s:Org} {q:SS} {V:Ym} {n:Nat} {U:List Pis} {L:List (Pis × Rg)} (hck:(Yp s).2=0) (hpr:PR s.ds.length s.ss.length s.cs.length V U L) (hv3:∃ m,V 0=some (m,mkS s)) {v:Value} {T:List HL} (h:OpenR s q V n v T) :
    ∃ (bp:Nat) (c2:Cl) (q2:SS),v=.tuple #[.pointer (some ⟨bp,0,none⟩),.int .i64 0]∧PSt (clS s c2) q2 V (n+1) U L∧q.Like q2∧T=psH s bp q2.bs c2++q2.hl:=by
  obtain ⟨m0,h0⟩:=hv3
  rcases h with ⟨h1,_⟩ | ⟨_,⟨m1,old,hv,hne⟩,_⟩ | ⟨_,bp,c2,q2,V2,rfl,hq2,hlk,hV,rfl⟩
  · exact absurd hck h1
  · rw [h0] at hv
    exact absurd (Prod.mk.inj (Option.some.inj hv)).2.symm hne
  · have hVV:V2=V:=by
      rcases hV with ⟨m,_,h⟩ | ⟨h,_⟩
      · exact h
      · rw [h0] at h; cases h
    subst hVV
    exact ⟨bp,c2,q2,rfl,⟨hq2,hpr⟩,hlk,by rw [hlk.bs]⟩
theorem Zor (s:Org) (hle:OrgLe s) (hck:(Yp s).2=0) (q:SS) (V:Ym) (n:Nat) (U:List Pis) (L:List (Pis × Rg)) (hq:q.Ok V n) (hpr:PR s.ds.length s.ss.length s.cs.length V U L) (hv3:∃ m,V 0=some (m,mkS s)) (hlf:q.f.left = -1) (T:List HL) (S:List Nat) (w0:World) (hown:Own w0 S w0 (q.hl++T)) (hS:OrgIn s w0 S) (hn:n<1000000):Sp Tryz.prog 12 [.pointer (some ⟨q.bs,0,none⟩),s.val] w0 S (fun v L9=>∃ (bp:Nat) (c2:Cl) (q2:SS),v=.tuple #[.pointer (some ⟨bp,0,none⟩),.int .i64 0]∧PSt (clS s c2) q2 V (n+1) U L∧q.Like q2∧L9=psH s bp q2.bs c2++(q2.hl++T)):=by
 refine (Sp.frame hown fun ho=>Zn7 q V n hq _ w0 ho s hle (OrgIn.atIn hS hown fun x hx=>List.mem_append_left _ hx) hn (fun m h=>by obtain ⟨m0,h0⟩:=hv3; rw [h0] at h; have h9:=(Prod.mk.inj (Option.some.inj h)).2; cases h9) (fun h=>by obtain ⟨m0,h0⟩:=hv3; rw [h0] at h; cases h) hlf).mono ?_
 rintro v L9 ⟨L1,h,rfl⟩
 obtain ⟨bp,c2,q2,rfl,h2,hlk,rfl⟩:=reopen hck hpr hv3 h
 exact ⟨bp,c2,q2,rfl,h2,hlk,by rw [List.append_assoc]⟩
theorem Zax {ic:List Nat} {B T:List HL}:∀ x∈pick ic B++T,x∈B++T:=fun x hx=>by
 rcases List.mem_append.1 hx with h | h
 ·exact List.mem_append_left _ (Zdq h)
 ·exact List.mem_append_right _ h
theorem Zp9 {s:Org} {br room:Nat} (hck:(Yp s).2=0) (h1:1≤room) (hr:room≤1000):RH.Ok s room ⟨br,none,0,none,0,[],[],[]⟩:=by
 obtain ⟨hd,hs,hc⟩:=Zg8 hck
 exact ⟨RfP.start hd hs hc h1 hr,fun e he=>(List.not_mem_nil he).elim⟩
end Ip
open Ip
namespace Ip
theorem Zsx (q:SS) (T:List HL):Sub (q.fl++(q.blk :: .obj q.bm (XL HV q.m q.nb)::(q.T++T))) (q.hl++T):=ZS (A:=[_,_,_,_,_]) (B:=[_,_,_,_,_]) (T:=q.T++T) [2,3,4,0,1] 5 (by decide) (by decide) rfl rfl
theorem SS.flashT {q:SS} {T:List HL} {F:FuncId} {args:List Value} {w0:World} {S:List Nat} {R:Value→List HL→Prop} (hown:Own w0 S w0 (q.hl++T)) (h:∀ S',(∀ b∈S',b∈S∨w0.heap.size≤b)→Own w0 S' w0 q.fl→Sp Tryz.prog F args w0 S' R) :
    Sp Tryz.prog F args w0 S (fun v L=>∃ L1,R v L1∧L=L1++(q.blk :: .obj q.bm (XL HV q.m q.nb)::(q.T++T))) :=
  Sp.part hown (Zsx q T) h
theorem Zi1 (q:SS) (f:Fl) (rp:Option Nat) (cp:Nat) (T:List HL):Sub ((q.withF f rp cp).hl++T) (FlH q.bf q.rb q.cb rp cp f++(q.blk :: .obj q.bm (XL HV q.m q.nb)::(q.T++T))):=ZS (A:=[_,_,_,_,_]) (B:=[_,_,_,_,_]) (T:=q.T++T) [3,4,0,1,2] 5 (by decide) (by decide) rfl rfl
theorem fuse_is {f:Fl} {k:Nat} {ps:List Nat} (hp:ps.length≤256) (hd:f.down=false):W4 f (k:Int) ps=({ f with left:=(k:Int),picks:=ps },0):=by
 unfold W4
 rw [if_neg (by omega),if_neg (by rw [hd]; decide)]
theorem PSt.fuse {s:Org} {q:SS} {V:Ym} {n:Nat} {U:List Pis} {L:List (Pis × Rg)} (h:PSt s q V n U L) {k:Nat} {ps:List Nat} (hk:k<9223372036854775808) (hp:ps.length≤256) (hv:∀ z∈ps,z<256) (rp:Option Nat) (cp:Nat):PSt s (q.withF { q.f with left:=(k:Int),picks:=ps } rp cp) V n U L :=
  ⟨⟨⟨⟨h.ok.st.ok.bs,hv,h.ok.st.ok.len,h.ok.st.ok.lo,h.ok.st.ok.hi,hp,h.ok.st.ok.pr,h.ok.st.ok.er,h.ok.st.ok.st,by simp only; omega,by simp only; omega⟩,h.ok.st.dn,h.ok.st.hid,h.ok.st.ms,h.ok.st.si,h.ok.st.cap⟩,h.ok.pr,h.ok.er,h.ok.num⟩,h.pr⟩
theorem fuseT_ok (s:Org) (q:SS) (V:Ym) (n:Nat) (U:List Pis) (L9:List (Pis × Rg)) (hst:PSt s q V n U L9) (T:List HL) (S:List Nat) (w0:World) (hown:Own w0 S w0 (q.hl++T)) (k:Nat) (hk:k<1000) (ps:List Nat) (a:Option Addr) (ca:Nat) (hps:OldSl w0 S a ps.length 1 (ps.map u8V)) (hpl:ps.length≤256) (hv:∀ z∈ps,z<256):Sp Tryz.prog 14 [.pointer (some ⟨q.bf,0,none⟩),.int .i64 (k:Int),.slice a ps.length ca] w0 S (fun v L=>v=.int .i64 0∧∃ q2:SS,L=q2.hl++T∧PSt s q2 V n U L9∧q2.bs=q.bs∧q2.bf=q.bf∧q2.cap=q.cap∧q2.f.st=q.f.st):=by
 refine (SS.flashT hown fun S' hS ho=>Fuse_ok q.f hst.ok.st.ok q.bf q.rb q.cb q.rp q.cp S' w0 ho k ps a ca (by omega) (hps.mono (by decide) hS) (by omega)).monoS ?_
 rintro v L ⟨L1,⟨rp2,cp2,rfl,rfl⟩,rfl⟩
 rw [fuse_is hpl hst.ok.st.dn]
 exact ⟨_,Zi1 q _ rp2 cp2 T,rfl,_,rfl,hst.fuse (by omega) hpl hv rp2 cp2,rfl,rfl,rfl,rfl⟩
theorem Zos (q:SS) (hf:q.f.Ok) (T:List HL) (S:List Nat) (w0:World) (hown:Own w0 S w0 (q.hl++T)):Sp Tryz.prog 26 [.pointer (some ⟨q.bf,0,none⟩)] w0 S (fun v L=>v=.bool q.f.down∧L=q.hl++T):=by
 refine (SS.flashT hown fun S' hS ho=>Down_ok q.f hf q.bf q.rb q.cb q.rp q.cp S' w0 ho).monoS ?_
 rintro v L ⟨L1,⟨rfl,rfl⟩,rfl⟩
 exact ⟨_,Zi1 q q.f q.rp q.cp T,rfl,rfl⟩
theorem Zgl (q:SS) (hf:q.f.Ok) (T:List HL) (S:List Nat) (w0:World) (hown:Own w0 S w0 (q.hl++T)):Sp Tryz.prog 27 [.pointer (some ⟨q.bf,0,none⟩)] w0 S (fun v L=>v=.int .i64 0∧L=(q.withF (WG q.f) none 0).hl++T):=by
 refine (SS.flashT hown fun S' hS ho=>Zpg q.f hf q.bf q.rb q.cb q.rp q.cp S' w0 ho).monoS ?_
 rintro v L ⟨L1,⟨rfl,rfl⟩,rfl⟩
 exact ⟨_,Zi1 q (WG q.f) none 0 T,rfl,rfl⟩
structure SS.Off (q:SS) (n:Nat) (V:Ym):Prop where
  ok:q.f.Ok
  fi:∃ N,N≤n∧FI q.f.b N V
  sp:∃ e,e<q.f.b.length / 256∧Jb q.f.b e
  pr:q.f.pr≤100000 * n
  er:q.f.er≤n
  cap:CapV V q.cap
theorem pr_cap {nd ns nc c:Nat} {V:Ym} {U:List Pis} {L:List (Pis × Rg)} (h:PR nd ns nc V U L) (hc:U.length+1≤c):CapV V c:=fun b P n fb hs=>by
 have hk:∀ k,k∈P.map En.key↔V k≠none:=fun k=>by
  constructor
  ·intro hk
   obtain ⟨x,hx⟩:=Option.isSome_iff_exists.1 (JD hk)
   rw [(hs.so k x hx).2.2]; simp
  ·intro hv
   cases e:YS k P with
   | none=>exact absurd (hs.no k e) hv
   | some y=>exact Zcg e
 have h2:=h.count hs.nd hk
 rw [List.length_map] at h2
 omega
theorem SS.Ok.off {q:SS} {V:Ym} {n:Nat} (h:q.Ok V n):q.Off n V :=
  ⟨h.st.ok,⟨q.num,h.num,h.st.si.fi⟩,⟨q.fb,h.st.si.hfb,Zer h.st.si.fi.lt h.st.si.em⟩,h.pr,h.er,h.st.capV⟩
theorem off_torn {nd ns nc:Nat} {q:SS} {V1 V2:Ym} {n:Nat} {ta tb:RS} (h:q.Torn n V1 V2) (h1:PR nd ns nc V1 ta.1 ta.2) (h2:PR nd ns nc V2 tb.1 tb.2) (hf1:ta.1.length+1≤q.cap) (hf2:tb.1.length+1≤q.cap):∃ (V:Ym) (t:RS),(t=ta∨t=tb)∧q.Off n V∧PR nd ns nc V t.1 t.2:=by
 obtain ⟨V,N,hN,hV,hfi⟩:=h.fi
 rcases hV with rfl | rfl
 ·exact ⟨V,ta,.inl rfl,⟨h.ok,⟨N,hN,hfi⟩,h.sp,h.pr,h.er,pr_cap h1 hf1⟩,h1⟩
 ·exact ⟨V,tb,.inr rfl,⟨h.ok,⟨N,hN,hfi⟩,h.sp,h.pr,h.er,pr_cap h2 hf2⟩,h2⟩
theorem Zkw (q:SS) (n:Nat) (V:Ym) (ho:q.Off n V) (hdn:q.f.down=false) (hlf:q.f.left = -1) (hst:q.f.st≤1000) (hn:n<1000000) (T:List HL) (S:List Nat) (w0:World) (hown:Own w0 S w0 (q.hl++T)):Sp Tryz.prog 28 [.pointer (some ⟨q.bf,0,none⟩)] w0 S (fun v L=>∃ (q2:SS) (T2:List HL),v=.tuple #[.pointer (some ⟨q2.bs,0,none⟩),.int .i64 0]∧L=q2.hl++T2∧(∀ x∈T,x∈T2)∧q2.Ok V (n+1)∧q2.f.left = -1):=by
 obtain ⟨N,hN,hfi⟩:=ho.fi
 have her:=ho.er
 refine (SS.flashT hown fun S' hS h=>Znu q.f ho.ok q.bf q.rb q.cb q.rp q.cp N V hfi ho.sp ho.cap S' w0 h (by omega) (by omega) hdn).mono ?_
 rintro v L ⟨L1,⟨bs,bm,m,nb,T9,num,f2,bk,rfl,hg,rfl⟩ | ⟨f2,rfl,hT,rfl⟩,rfl⟩
 ·refine ⟨SS.mk f2 bs q.bf q.rb q.cb q.rp q.cp (q.f.st+1) bm num bk m nb T9,q.blk :: .obj q.bm (XL HV q.m q.nb)::(q.T++T),rfl,rfl,fun x hx=>List.mem_cons_of_mem _ (List.mem_cons_of_mem _ (List.mem_append_right _ hx)),⟨hg.st,?_,?_,?_⟩,hg.no hlf⟩
  ·show f2.pr≤_
   rw [hg.pr]; have:=ho.pr; omega
  ·show f2.er≤_
   have:=hg.er; omega
  ·show num≤_
   have:=hg.num; omega
 ·exact absurd hlf hT.no
structure RfHd (s:Org) (room:Nat) (t:RH) (w:World) (S:List Nat):Prop where
  p:Cells w ⟨t.br,0,none⟩ (rfC s room t)
  o:t.br ∉ S
  u:OldSl w S (rowA t.ru) t.U.length 3 (t.U.flatMap Pis.cells)
  l:OldSl w S (rowA t.rl) t.L.length 5 (t.L.flatMap keC)
theorem RfHd.sub {s:Org} {room:Nat} {t:RH} {w:World} {S:List Nat} {l1 T:List HL} (h:RfHd s room t w S) (hown:Own w S w (l1++T)) (hk:∀ e∈t.L,KeM T e):RfIn s room t w (l1.filterMap HL.block):=by
 have hin:∀ x∈l1,x∈l1++T:=fun x hx=>List.mem_append_left _ hx
 refine ⟨h.p,fun hb=>?_,h.u.atIn hown (by decide) hin,h.l.atIn hown (by decide) hin,fun e he=>(hk e he).tail (hown.sub (Zdv l1 T))⟩
 obtain ⟨x,hx,hxb⟩:=List.mem_filterMap.1 hb
 rcases hown.place x (hin x hx) _ hxb with h1 | h1
 ·exact h.o h1
 ·exact absurd (Zgq (h.p 0 _ rfl)) (Nat.not_lt.2 h1)
theorem rfC_sp {s:Org} {room:Nat} {t:RH} {w:World} (h:Cells w ⟨t.br,0,none⟩ (rfC s room t)):Cells w ((⟨t.br,0,none⟩:Addr).add 0) [.slice s.da s.ds.length s.dc,.slice s.ra s.rs.length s.rc,.slice s.sa s.ss.length s.sc,.slice s.ca s.cs.length s.cc]:=fun j v hv=>by
 have h2:=h j v (by
  rcases j with _ | _ | _ | _ | j
  ·exact hv
  ·exact hv
  ·exact hv
  ·exact hv
  ·simp at hv)
 exact h2
theorem one_pis (U:List Pis):∀ u∈U.flatMap Pis.cells,u.oneCell'=true:=fun u hu=>by
 obtain ⟨x,_,hx⟩:=List.mem_flatMap.1 hu
 simp at hx
 rcases hx with rfl | rfl | rfl <;> rfl
theorem one_ke (L:List KE):∀ u∈L.flatMap keC,u.oneCell'=true:=fun u hu=>by
 obtain ⟨x,_,hx⟩:=List.mem_flatMap.1 hu
 simp at hx
 rcases hx with rfl | rfl | rfl | rfl | rfl <;> rfl
end Ip
open Ip
theorem rTwin_ok (s:Org) (room:Nat) (t:RH) (w0:World) (hp:Cells w0 ⟨t.br,0,none⟩ (rfC s room t)) (hu:OldSl w0 [] (rowA t.ru) t.U.length 3 (t.U.flatMap Pis.cells)) (hL:OldSl w0 [] (rowA t.rl) t.L.length 5 (t.L.flatMap keC)) (hUl:t.U.length≤1000) (hLl:t.L.length≤1000):Sp Tryz.prog 25 [.pointer (some ⟨t.br,0,none⟩)] w0 [] (fun v L=>∃ (b:Nat) (ru:Option Nat) (cu:Nat) (rl:Option Nat) (cl:Nat),v=.pointer (some ⟨b,0,none⟩)∧L=RH.hd s room ⟨b,ru,cu,rl,cl,t.U,t.L,t.T⟩):=by
 have hsp:=rfC_sp hp
 refine ZD Tryz.func25 Z Tryz.ntmps25 Z (Own.refl _) ?_
 simp only [ZU]
 refine Zb<|Za<|gas Z rfl<|gA<|Zb<|ZO [] true 10 rfl<|Zd 0 Z Z ⟨[],by decide,rfl⟩ (Zf (Zo Z)) ?_
 refine Zd 1 Z Z ⟨[],by decide,rfl⟩ (Zf (ZK Z)) ?_
 refine Zd 2 Z Z ⟨[],by decide,rfl⟩ (Zf (Zc Z (Vm _))) ?_
 refine Zd 3 Z Z ⟨[],by decide,rfl⟩ (Zf (Zq Tryz.underlying45 Z Xr Z (by exact Zc6 (by assumption) (by simp)) Z)) ?_
 refine Zd 4 Z Z ⟨[],by decide,rfl⟩ (Zf (Zo Z)) ?_
 refine Zd 5 Z Z ⟨[],by decide,rfl⟩ (Zf (ZK Z)) ?_
 refine Zd 6 Z Z ⟨[],by decide,rfl⟩ (Zf (Zc Z (Zql _))) ?_
 refine Zd 7 Z Z ⟨[],by decide,rfl⟩ (Zf (Zi Tryz.underlying3 Z Z (Yk hp (by simp) (j:=4) Z))) ?_
 refine Zd 8 Z Z ⟨[],by decide,rfl⟩ (Zf (ZV Z (fun _=>Zjt _ _ _ _ _ _ _ _ _ _ _ _ _))) ?_
 refine ZL 9 Z (.inr ⟨[],by decide,rfl⟩) (Z6 Z Z Z (fun b13=>?_))
 refine Zd 10 Z Z ⟨[],by decide,rfl⟩ (Zf (ZY Z)) ?_
 refine ZP (.inr ⟨[],by decide,rfl⟩) ?_
 refine Ze<|Zb<|YB 23 3<|YB 176 5<|ZO [0,2] false 12 rfl<|Zd 0 Z Z ⟨[0,2],by decide,rfl⟩ (Zf (Zo Z)) ?_
 refine Zd 1 Z Z ⟨[0,2],by decide,rfl⟩ (Zf (Zo Z)) ?_
 refine Zd 2 Z Z ⟨[0,2],by decide,rfl⟩ (Zf (ZK Z)) ?_
 refine Zd 3 Z Z ⟨[0,2],by decide,rfl⟩ (Zf (Zc Z (JQ _))) ?_
 refine Zd 4 Z Z ⟨[0,2],by decide,rfl⟩ (Zf (Zi Tryz.underlying56 Z Z (by exact Zr 1 Z Z))) ?_
 refine Zd 5 Z Z ⟨[0,2],by decide,rfl⟩ (Zf (Zo Z)) ?_
 refine Zd 6 Z Z ⟨[0,2],by decide,rfl⟩ (Zf (ZK Z)) ?_
 refine Zd 7 Z Z ⟨[0,2],by decide,rfl⟩ (Zf (Zc Z (JQ _))) ?_
 refine Zd 8 Z Z ⟨[0,2],by decide,rfl⟩ (Zf (Zi Tryz.underlying56 Z Z (Yk hp (by simp) (j:=5) Z))) ?_
 refine ZL 9 Z (.inr ⟨[0,2],by decide,rfl⟩) (W8 1 hu Tryz.underlying56 Yi Z (by decide) Z Z Z Z (one_pis t.U) (by omega) (by omega) (fun _=>(by rfl)) (fun r23 c23=>?_))
 refine ZL 10 Z (.inr ⟨[0,2],by decide,rfl⟩) (Zl Z (ZK Z) ?_)
 refine Zd 11 Z Z ⟨[0,2],by decide,rfl⟩ (Zf (Zc Z (JQ _))) ?_
 refine ZL 12 Z (.inr ⟨[0,2],by decide,rfl⟩) (Z8 2 ty_56 Z Z Z Z Z (by rfl) (by rfl) ?_)
 refine ZP (.inl (by kernel_rfl)) ?_
 refine Ze<|Zb ?_
 rw [Nat.zero_add,List.nil_append]
 refine ZO [1,2] false 12 rfl<|Zd 0 Z Z ⟨[1,2],by decide,rfl⟩ (Zf (Zo Z)) ?_
 refine Zd 1 Z Z ⟨[1,2],by decide,rfl⟩ (Zf (Zo Z)) ?_
 refine Zd 2 Z Z ⟨[1,2],by decide,rfl⟩ (Zf (ZK Z)) ?_
 refine Zd 3 Z Z ⟨[1,2],by decide,rfl⟩ (Zf (Zc Z (YZ _))) ?_
 refine Zd 4 Z Z ⟨[1,2],by decide,rfl⟩ (Zf (Zi Tryz.underlying74 Z Z (by exact Zr 1 Z Z))) ?_
 refine Zd 5 Z Z ⟨[1,2],by decide,rfl⟩ (Zf (Zo Z)) ?_
 refine Zd 6 Z Z ⟨[1,2],by decide,rfl⟩ (Zf (ZK Z)) ?_
 refine Zd 7 Z Z ⟨[1,2],by decide,rfl⟩ (Zf (Zc Z (YZ _))) ?_
 refine Zd 8 Z Z ⟨[1,2],by decide,rfl⟩ (Zf (Zi Tryz.underlying74 Z Z (Yk hp (by simp) (j:=6) Z))) ?_
 refine ZL 9 Z (.inr ⟨[1,2],by decide,rfl⟩) (W8 0 hL Tryz.underlying74 Xc Z (by decide) Z Z Z Z (one_ke t.L) (by omega) (by omega) (fun _=>(by rfl)) (fun r35 c35=>?_))
 refine ZL 10 Z (.inr ⟨[1,2],by decide,rfl⟩) (Zl Z (ZK Z) ?_)
 refine Zd 11 Z Z ⟨[1,2],by decide,rfl⟩ (Zf (Zc Z (YZ _))) ?_
 refine ZL 12 Z (.inr ⟨[1,2],by decide,rfl⟩) (Z8 2 ty_74 Z Z Z Z Z (by rfl) (by rfl) ?_)
 refine ZP (.inl (by kernel_rfl)) ?_
 refine Ze<|Zb ?_
 rw [Nat.zero_add,List.nil_append]
 refine Za<|gm Z rfl<|gas Z rfl<|gA<|Zu<|Zy (.inl Z) Tryz.results25 Z [2,1,0] (by decide) ?_
 exact ⟨b13,r23,c23,r35,c35,rfl,rfl⟩
theorem kept_ok (s:Org) (hle:OrgLe s) (hck:(Yp s).2=0) (room:Nat) (q:SS) (V:Ym) (n:Nat) (c:Cl) (t0:RS) (hst:PSt (clS s c) q V n t0.1 t0.2) (a b:RH) (ha:a.Ok s room) (hb:b.Ok s room) (S:List Nat) (w0:World) (hown:Own w0 S w0 q.hl) (hn:n+100<1000000) (hS:OrgIn s w0 S) (bp:Nat) (hP:PsIn (clS s c) bp q.bs w0 S) (hra:RfIn s room a w0 S) (hrb:RfIn s room b w0 S) (x:Pis) (hm:(Z7 s t0 x [] [])=(Z7 s a.st x [] [])∨(Z7 s t0 x [] [])=(Z7 s b.st x [] [])):Sp Tryz.prog 30 [.pointer (some ⟨bp,0,none⟩),.pointer (some ⟨a.br,0,none⟩),.pointer (some ⟨b.br,0,none⟩),Pis.val x] w0 S (fun v L=>v=.bool true∧L=q.hl):=by
 have hnd:=ha.p.hnd
 have hns:=ha.p.hns
 have hnc:=ha.p.hnc
 refine ZD Tryz.func30 Z Tryz.ntmps30 Z hown ?_
 simp only [ZU]
 refine Zb<|Za<|Zs (Z6 Z Z Z (fun b7=>?_))
 refine gas Z rfl<|gA<|Zb<|Za<|gr Z (ZV Z (fun _=>Zc9)) ?_
 refine Zs (ZT Z4 Z Z (fun b9=>?_))
 refine Zs (Zz 0 Z4 Z Z Z Z Z Z (by rfl) ?_)
 refine gA<|Zb<|Za<|gm Z rfl<|gr Z (Zq Tryz.underlying23 Z Yi Z (by exact ZF 1 (off:=0) (k:=3) Z Z) Z) ?_
 refine gr Z (Zq Tryz.underlying26 Z Z4 Z (by exact ZF 0 (off:=0) (k:=2) Z Z) Z) ?_
 refine Zs (Yh [_,_] q.hl Z Z (vf:=[]) (vc:=[]) Z Z Tryz.call16 Z (fun w how hc=>Zfw q V n (clS s c) t0 hst _ w hc (by omega) bp (hP.out (A:=[_,_]) how) x [] [] none none 0 0 (Nat.zero_le _) (Nat.zero_le _) (Jp _ _ _) (Jp _ _ _) (Z7 s t0 x [] []).1 (Z7 s t0 x [] []).2 Z) ?_)
 rintro _ _ ⟨r21,d21,s21,e21,rfl,rfl⟩
 refine gm Z rfl<|gr Z (ZA Z Z)<|gr Z (ZA Z Z)<|Zs (ZT Z4 Z Z (fun b10=>?_))
 refine Zs (Zz 0 Z4 Z Z Z Z Z Z (by rfl) ?_)
 refine gas Z rfl<|gA<|Zb<|Za<|gm Z rfl<|gr Z (Zq Tryz.underlying23 Z Yi Z (by exact ZF 2 (off:=0) (k:=3) Z Z) Z) ?_
 refine gr Z (Zq Tryz.underlying26 Z Z4 Z (by exact ZF 1 (off:=0) (k:=2) Z Z) Z) ?_
 refine Zs (ZJ Z (vf:=[]) (vc:=[]) Z Z Tryz.call63 (fun w1 ho=>Zcz s hle hck room a ha w1 (hS.at ho) (hra.at ho) x [] [] none none 0 0 (Nat.zero_le _) (Nat.zero_le _) (Jp _ _ _) (Jp _ _ _)) ?_)
 rintro _ _ ⟨r28,d28,s28,e28,rfl,rfl⟩
 refine gm Z rfl<|gr Z (ZA Z Z)<|gr Z (ZA Z Z)<|Zs (ZT Z4 Z Z (fun b12=>?_))
 refine Zs (Zz 0 Z4 Z Z Z Z Z Z (by rfl) ?_)
 refine gas Z rfl<|gA<|Zb<|Za<|gm Z rfl<|gr Z (Zq Tryz.underlying23 Z Yi Z (by exact ZF 5 (off:=0) (k:=3) Z Z) Z) ?_
 refine gr Z (Zq Tryz.underlying26 Z Z4 Z (by exact ZF 4 (off:=0) (k:=2) Z Z) Z) ?_
 refine Zs (ZJ Z (vf:=[]) (vc:=[]) Z Z Tryz.call63 (fun w1 ho=>Zcz s hle hck room b hb w1 (hS.at ho) (hrb.at ho) x [] [] none none 0 0 (Nat.zero_le _) (Nat.zero_le _) (Jp _ _ _) (Jp _ _ _)) ?_)
 rintro _ _ ⟨r35,d35,s35,e35,rfl,rfl⟩
 refine gm Z rfl<|gr Z (ZA Z Z)<|gr Z (ZA Z Z)<|Zs (ZT Z4 Z Z (fun b14=>?_))
 refine Zs (Zz 0 Z4 Z Z Z Z Z Z (by rfl) ?_)
 refine gas Z rfl<|gA<|Zb<|Za<|gm Z rfl<|gm Z rfl<|gr Z (Ya Z Z) (Zw (fun h40=>?_) (fun h40=>?_))
 ·refine gm Z rfl<|Zg Z Z (Zl Z (Zq Tryz.underlying26 Z Z4 Z (by exact ZF 6 (off:=0) (k:=2) Z Z) Z) ?_)
  refine Zg Z Z (Zl Z (Zq Tryz.underlying26 Z Z4 Z (by exact ZF 3 (off:=0) (k:=2) Z Z) Z) ?_)
  refine Zg Z Z (ZJ Z (vf:=[]) (vc:=[]) Z Z Tryz.call32 (fun w1 ho=>JF (Z7 s t0 x [] []).1 (Z7 s a.st x [] []).1 _ _ _ _ _ _ _ _ (Xq hns hnc _ _ _ _).1 (Xq hns hnc _ _ _ _).2 w1 (ho.rowSl 9 Z) (ho.rowSl 10 Z) (ho.rowSl 4 Z) (ho.rowSl 5 Z)) ?_)
  rintro _ _ ⟨rfl,rfl⟩
  refine Z0 (fun hs1=>?_) (fun hs1=>?_)
  ·refine gr Z (Zp Z Z)<|gm Z rfl<|Zj Z Z rfl<|Zj Z Z rfl<|Zj Z Z rfl<|Zj Z Z rfl<|Z2 Z Z rfl<|Z2 Z Z rfl<|Z2 Z Z rfl<|Zj Z Z rfl<|gr Z (Zp Z Z)<|gas Z rfl<|gA<|Zu<|ZW (.inl Z) Tryz.results30 Z (ZS (A:=[]) (B:=[_,_,_,_,_,_,_,_,_,_,_]) (T:=q.hl) [] 11 (by decide) (by decide) Z Z) ?_
   exact ⟨rfl,rfl⟩
  refine gr Z (Zp Z Z)<|gm Z rfl<|Zg Z rfl<|Zl Z (Zo Z)<|Zg Z rfl<|Zl Z (Zo Z)<|Zg Z Z (Zl Z (Ya Z Z) (Zw (fun h49=>?_) (fun h49=>?_)))
  ·refine Zg Z rfl<|Zl Z (Zo Z)<|Zg Z Z (Zl Z (Zq Tryz.underlying26 Z Z4 Z (by exact ZF 6 (off:=0) (k:=2) Z Z) Z) ?_)
   refine Zg Z Z (Zl Z (Zq Tryz.underlying26 Z Z4 Z (by exact ZF 0 (off:=0) (k:=2) Z Z) Z) ?_)
   refine Zg Z Z (ZJ Z (vf:=[]) (vc:=[]) Z Z Tryz.call32 (fun w1 ho=>JF (Z7 s t0 x [] []).1 (Z7 s b.st x [] []).1 _ _ _ _ _ _ _ _ (Xq hns hnc _ _ _ _).1 (Xq hns hnc _ _ _ _).2 w1 (ho.rowSl 9 Z) (ho.rowSl 10 Z) (ho.rowSl 1 Z) (ho.rowSl 2 Z)) ?_)
   rintro _ _ ⟨rfl,rfl⟩
   refine Z0 (fun hs2=>?_) (fun hs2=>?_)
   ·refine Zg Z rfl<|Zl Z (Zp Z Z)<|gr Z (Zn Z Z)<|gas Z rfl<|gA<|Zu<|ZW (.inl Z) Tryz.results30 Z (ZS (A:=[]) (B:=[_,_,_,_,_,_,_,_,_,_,_]) (T:=q.hl) [] 11 (by decide) (by decide) Z Z) ?_
    exact ⟨rfl,rfl⟩
   exfalso
   rcases hm with e | e
   ·rw [e] at hs1; simp at hs1
   ·rw [e] at hs2; simp at hs2
  exfalso
  rcases hm with e | e
  ·rw [e] at hs1; simp at hs1
  ·exact h49 (by rw [e])
 refine gm Z rfl<|Zj Z Z rfl<|Zj Z Z rfl<|Zj Z Z rfl<|gr Z (Zn Z Z)<|gm Z rfl<|Zg Z rfl<|Zl Z (Zo Z)<|Zg Z rfl<|Zl Z (Zo Z)<|Zg Z Z (Zl Z (Ya Z Z) (Zw (fun h49=>?_) (fun h49=>?_)))
 ·refine Zg Z rfl<|Zl Z (Zo Z)<|Zg Z Z (Zl Z (Zq Tryz.underlying26 Z Z4 Z (by exact ZF 6 (off:=0) (k:=2) Z Z) Z) ?_)
  refine Zg Z Z (Zl Z (Zq Tryz.underlying26 Z Z4 Z (by exact ZF 0 (off:=0) (k:=2) Z Z) Z) ?_)
  refine Zg Z Z (ZJ Z (vf:=[]) (vc:=[]) Z Z Tryz.call32 (fun w1 ho=>JF (Z7 s t0 x [] []).1 (Z7 s b.st x [] []).1 _ _ _ _ _ _ _ _ (Xq hns hnc _ _ _ _).1 (Xq hns hnc _ _ _ _).2 w1 (ho.rowSl 9 Z) (ho.rowSl 10 Z) (ho.rowSl 1 Z) (ho.rowSl 2 Z)) ?_)
  rintro _ _ ⟨rfl,rfl⟩
  refine Z0 (fun hs2=>?_) (fun hs2=>?_)
  ·refine Zg Z rfl<|Zl Z (Zp Z Z)<|gr Z (Zn Z Z)<|gas Z rfl<|gA<|Zu<|ZW (.inl Z) Tryz.results30 Z (ZS (A:=[]) (B:=[_,_,_,_,_,_,_,_,_,_,_]) (T:=q.hl) [] 11 (by decide) (by decide) Z Z) ?_
   exact ⟨rfl,rfl⟩
  exfalso
  rcases hm with e | e
  ·exact h40 (by rw [e])
  ·rw [e] at hs2; simp at hs2
 exfalso
 rcases hm with e | e
 ·exact h40 (by rw [e])
 ·exact h49 (by rw [e])
namespace Ip
theorem Zot (s:Org) (hle:OrgLe s) (hck:(Yp s).2=0) (room:Nat) (q:SS) (V:Ym) (n:Nat) (c:Cl) (t0:RS) (hst:PSt (clS s c) q V n t0.1 t0.2) (a b:RH) (ha:a.Ok s room) (hb:b.Ok s room) (S:List Nat) (w0:World) (T:List HL) (hown:Own w0 S w0 (q.hl++T)) (hn:n+100<1000000) (hS:OrgIn s w0 S) (bp:Nat) (hP:PsIn (clS s c) bp q.bs w0 S) (hra:RfHd s room a w0 S) (hrb:RfHd s room b w0 S) (hka:∀ e∈a.L,KeM T e) (hkb:∀ e∈b.L,KeM T e) (x:Pis) (hm:(Z7 s t0 x [] [])=(Z7 s a.st x [] [])∨(Z7 s t0 x [] [])=(Z7 s b.st x [] [])):Sp Tryz.prog 30 [.pointer (some ⟨bp,0,none⟩),.pointer (some ⟨a.br,0,none⟩),.pointer (some ⟨b.br,0,none⟩),Pis.val x] w0 S (fun v L=>v=.bool true∧L=q.hl++T):=by
 refine (Sp.frame hown fun ho=>kept_ok s hle hck room q V n c t0 hst a b ha hb _ w0 ho hn (OrgIn.atIn hS hown fun x hx=>List.mem_append_left _ hx) bp (hP.out (hown.sub (Zdv q.hl T))) (hra.sub hown hka) (hrb.sub hown hkb) x hm).mono ?_
 rintro v L ⟨L1,⟨rfl,rfl⟩,rfl⟩
 exact ⟨rfl,rfl⟩
end Ip
namespace Ip
theorem u8at {j:Nat} (h:j<5):([.int .u8 0,.int .u8 0,.int .u8 0,.int .u8 6,.int .u8 7]:List Value)[j]? = some (.int .u8 ((([0,0,0,6,7]:List Nat).getD j 0:Nat):Int)):=by
 rcases j with _ | _ | _ | _ | _ | j
 ·rfl
 ·rfl
 ·rfl
 ·rfl
 ·rfl
 ·omega
theorem u8lt {j:Nat} (h:j<5):([0,0,0,6,7]:List Nat).getD j 0<256:=by
 rcases j with _ | _ | _ | _ | _ | j
 ·decide
 ·decide
 ·decide
 ·decide
 ·decide
 ·omega
theorem SS.Off.restart {q:SS} {n:Nat} {V:Ym} (h:q.Off n V):(q.withF (WG q.f) none 0).Off n V:=⟨Zni h.ok,h.fi,h.sp,h.pr,h.er,h.cap⟩
end Ip
open Ip
theorem Zji (s:Org) (hle:OrgLe s) (la:Option Addr) (lc:Nat) (l:List Ac) (hll:l.length≤140737488355328) (hal:∀ a∈l,AcLe a) (nn:Nat) (hnn:nn<65536) (pa:Option Addr) (pc:Nat) (ps:List Nat) (hpl:ps.length≤140737488355328) (hpv:∀ z∈ps,z<256) (w0:World) (hS:OrgIn s w0 []) (hl:AcsIn la l w0 []) (hps:OldSl w0 [] pa ps.length 1 (ps.map u8V)):Sp Tryz.prog 4 [s.val,.slice la l.length lc,.agg #[.int .u16 (nn:Int),.slice pa ps.length pc]] w0 [] (RV (.bool true)):=by
 refine ZD Tryz.func4 Z Tryz.ntmps4 Z (Own.refl _) ?_
 simp only [ZU]
 refine Zb<|Za<|Zs (Z6 Z Z Z (fun b3=>?_))
 refine Zs (Z6 Z Z Z (fun b5=>?_))
 refine gas Z rfl<|gA<|Zb<|Za<|gr Z (Zq Tryz.underlying45 Z Xr Z (by exact ZF 1 (off:=0) (k:=4) Z Z) Z) ?_
 refine Zs (ZJ Z (vf:=[]) (vc:=[]) Z Z Tryz.call22 (fun w1 ho=>Zjy s hle w1 (hS.at ho)) ?_)
 rintro _ _ ⟨rfl,rfl⟩
 refine gm Z rfl<|gr Z (ZA Z Z)<|gr Z (ZA Z Z)<|Zs (ZT YR Z Z (fun b7=>?_))
 refine Zs (Zz 0 YR Z Z Z Z Z Z (by rfl) ?_)
 refine gas Z rfl<|gA<|Zb<|Zb<|Za<|gr Z (Zq Tryz.underlying45 Z Xr Z (by exact ZF 2 (off:=0) (k:=4) Z Z) Z) ?_
 refine Zs (ZJ Z (vf:=[]) (vc:=[]) Z Z Tryz.call23 (fun w1 ho=>far10_ok s hle w1 (hS.at ho)) ?_)
 rintro _ _ ⟨fa,rfl,rfl⟩
 refine gm Z rfl<|Z0 (fun h29=>?_) (fun h29=>?_)
 ·refine Zj Z Z rfl<|Zj Z Z rfl<|gr Z (Zp Z Z)<|gm Z rfl<|Zj Z Z rfl<|Zj Z Z rfl<|Zj Z Z rfl<|gr Z (Zp Z Z)<|gm Z rfl<|Zj Z Z rfl<|Zj Z Z rfl<|Zj Z Z rfl<|Zj Z Z rfl<|gr Z (Zp Z Z)<|gm Z rfl<|Zj Z Z rfl<|Zj Z Z rfl<|gr Z (Zp Z Z)<|gA<|Zk rfl<|Zb<|Za<|Zs (ZJ Z (vf:=[]) (vc:=[]) Z Z Tryz.call10 (fun w1 ho=>VK w1) ?_)
  rintro _ _ ⟨rfl,rfl⟩
  refine gas Z rfl<|gA<|Zu<|Zh<|ZW (.inl Z) Tryz.results4 Z (J2 _) ?_
  exact ⟨rfl,rfl⟩
 refine Zg Z rfl<|Zl Z (Zo Z)<|Zg Z Z (ZJ Z (vf:=[]) (vc:=[]) Z Z Tryz.call9 (fun w1 ho=>great_ok la lc l 25 (by decide) hll w1 (hl.at ho)) ?_)
 rintro _ _ ⟨gb,rfl,rfl,hgb⟩
 refine gr Z (Zn Z Z)<|gm Z rfl<|Z0 (fun h33=>?_) (fun h33=>?_)
 ·refine Zj Z Z rfl<|Zj Z Z rfl<|Zj Z Z rfl<|gr Z (Zp Z Z)<|gm Z rfl<|Zj Z Z rfl<|Zj Z Z rfl<|Zj Z Z rfl<|Zj Z Z rfl<|gr Z (Zp Z Z)<|gm Z rfl<|Zj Z Z rfl<|Zj Z Z rfl<|gr Z (Zp Z Z)<|gA<|Zk rfl<|Zb<|Za<|Zs (ZJ Z (vf:=[]) (vc:=[]) Z Z Tryz.call10 (fun w1 ho=>VK w1) ?_)
  rintro _ _ ⟨rfl,rfl⟩
  refine gas Z rfl<|gA<|Zu<|Zh<|ZW (.inl Z) Tryz.results4 Z (J2 _) ?_
  exact ⟨rfl,rfl⟩
 have hl25:=hgb h33
 refine Zg Z rfl<|Zl Z (Zo Z)<|Zg Z rfl<|Zl Z (ZB Tryz.underlying30 Z)<|Zg Z Z (Zl Z (Ya Z Z) (Zw (fun h36=>?_) (fun h36=>?_)))
 ·refine gr Z (Zn Z Z)<|gm Z rfl<|Zj Z Z rfl<|Zj Z Z rfl<|Zj Z Z rfl<|Zj Z Z rfl<|gr Z (Zp Z Z)<|gm Z rfl<|Zj Z Z rfl<|Zj Z Z rfl<|gr Z (Zp Z Z)<|gA<|Zk rfl<|Zb<|Za<|Zs (ZJ Z (vf:=[]) (vc:=[]) Z Z Tryz.call10 (fun w1 ho=>VK w1) ?_)
  rintro _ _ ⟨rfl,rfl⟩
  refine gas Z rfl<|gA<|Zu<|Zh<|ZW (.inl Z) Tryz.results4 Z (J2 _) ?_
  exact ⟨rfl,rfl⟩
 refine gr Z (Zn Z Z)<|gm Z rfl<|Zg Z rfl<|Zl Z (Zc Z (Zqk _))<|Zg Z Z (Zl Z (Zi Tryz.underlying65 Z Z (by exact Zr 1 Z Z)) ?_)
 refine Zg Z rfl<|Zl Z (ZB Tryz.underlying65 Z)<|Zg Z Z (Zl Z (Yn Z Z) (Zw (fun h42=>?_) (fun h42=>?_)))
 ·refine gr Z (Zn Z Z)<|gm Z rfl<|Zj Z Z rfl<|Zj Z Z rfl<|gr Z (Zp Z Z)<|gA<|Zk rfl<|Zb<|Za<|Zs (ZJ Z (vf:=[]) (vc:=[]) Z Z Tryz.call10 (fun w1 ho=>VK w1) ?_)
  rintro _ _ ⟨rfl,rfl⟩
  refine gas Z rfl<|gA<|Zu<|Zh<|ZW (.inl Z) Tryz.results4 Z (J2 _) ?_
  exact ⟨rfl,rfl⟩
 refine gr Z (Zn Z Z)<|gm Z rfl<|Zg Z rfl<|Zl Z (Zo Z)<|Zg Z Z (Zl Z (Z5 Z Z) (Zw (fun h46=>?_) (fun h46=>?_)))
 ·refine gr Z (Zn Z Z)<|gA<|Zk rfl<|Zb<|Za<|Zs (ZJ Z (vf:=[]) (vc:=[]) Z Z Tryz.call10 (fun w1 ho=>VK w1) ?_)
  rintro _ _ ⟨rfl,rfl⟩
  refine gas Z rfl<|gA<|Zu<|Zh<|ZW (.inl Z) Tryz.results4 Z (J2 _) ?_
  exact ⟨rfl,rfl⟩
 have hck:(Yp s).2=0:=by omega
 obtain ⟨hnd,hns,hnc⟩:=Zg8 hck
 have hl1:1≤l.length:=by omega
 have hp256:ps.length≤256:=by omega
 refine gr Z (Zn Z Z)<|gA<|Zm rfl<|Zv<|Ze<|Zb<|Za<|Zs (ZJ Z (vf:=[]) (vc:=[]) Z Z Tryz.call11 (fun w1 ho=>Zoe 6 (by decide) (by decide) w1) ?_)
 rintro _ _ ⟨q,rfl,hn,rfl⟩
 refine VA [] q.hl [_,_,_]<|gm Z rfl<|gr Z (ZA Z Z)<|gr Z (ZA Z Z)<|gas Z rfl<|gas Z rfl<|gA<|Zb<|Za<|gm Z rfl<|gr Z (Zq Tryz.underlying45 Z Xr Z (by exact ZF 2 (off:=0) (k:=4) Z Z) Z) ?_
 refine Zs (Yh [_,_,_] q.hl Z Z (vf:=[]) (vc:=[]) Z Z Tryz.call12 Z (fun w how hc=>Zgj q hn (by decide) _ w hc s hle (OrgIn.out (A:=[_,_,_]) hS how)) ?_)
 rintro _ _ (⟨hck9,_⟩ | ⟨bp,c9,q2,V2,rfl,hp2,rfl⟩)
 ·exact absurd hck hck9
 rw [← hp2.lk.bs,← hp2.lk.bf]
 have hst2:=hp2.st
 have hlf2:=hp2.left hn
 have hcap2:q2.cap=40:=hp2.cap hn
 have hfs2:q2.f.st=1:=hp2.lk.st.trans hn.st
 refine gm Z rfl<|gr Z (ZA Z Z)<|gr Z (ZA Z Z)<|gas Z rfl<|gas Z rfl<|gA<|Zb<|Zb<|Za<|gm Z rfl<|gr Z (Wa eg_32 Tryz.underlying32 Z Z)<|gm Z rfl<|Zg Z rfl<|Zl Z (Zo Z)<|Zg Z Z (Zl Z (Z5 Z Z) (Zw (fun h63=>?_) (fun h63=>?_)))
 ·exact absurd rfl h63
 refine gr Z (Zn Z Z)<|gA<|Zm rfl<|Zv<|Ze<|Zb<|Za<|gr Z (Zq Tryz.underlying45 Z Xr Z (by exact ZF 2 (off:=0) (k:=4) Z Z) Z) ?_
 refine gr Z (ZV Z (fun _=>Zjt _ _ _ _ _ _ _ _ _ _ _ _ _)) ?_
 refine Zs (Z6 Z Z Z (fun b67=>?_))
 refine gas Z rfl<|gA<|Zb<|Zb ?_
 rw [← List.append_nil q2.hl]
 refine Za<|gas Z rfl<|gA<|ZC<|YB 176 5<|YB 23 3<|ZZ (ι:=Nat × SS × Ym × RH) [(1,_),(3,_),(5,_),(9,_),(11,_),(13,_)] [_,_,_,_,_,_,_] (fun y=>y.1≤l.length - 1∧y.2.2.2.br=b67∧y.2.2.2.Ok s 40∧PSt (clS s c9) y.2.1 y.2.2.1 (2+100 * y.1) y.2.2.2.st.1 y.2.2.2.st.2∧y.2.1.bs=q2.bs∧y.2.1.bf=q2.bf∧y.2.1.f.left = -1∧y.2.1.cap=40∧y.2.1.f.st=1) (fun y Fr0=>((14,natV y.1)::Fr0)) (fun y Fr0=>(.blk b67 (rfC s 40 y.2.2.2) 76::rfU y.2.2.2::rfL y.2.2.2::(Fr0++(y.2.1.hl++y.2.2.2.T)))) (fun y=>l.length - 1 - y.1) (0,q2,V2,⟨b67,none,0,none,0,[],[],[]⟩) (⟨Nat.zero_le _,rfl,Zp9 hck (by decide) (by decide),hst2,rfl,rfl,hlf2,hcap2,hfs2⟩) ⟨rfl,rfl,rfl,rfl,rfl,rfl,rfl,trivial⟩ (ZS (A:=[_,_,_,_,_,_,_,_,_,_]) (B:=[_,_,_,_,_,_,_,_,_,_]) (T:=(q2.hl++[])) [2,0,1,3,4,5,6,7,8,9] 10 (by decide) (by decide) Z Z) ?_
 rintro ⟨k,q,V,⟨br1,ru,cu,rl,cl,U,L,T1⟩⟩ ⟨hk,hbr,hok,hst,hbs,hbf,hlf,hcq,hfs⟩
 simp only at hk hbr hst hbs hbf hlf hcq hfs ⊢
 replace hbr:=hbr.symm
 subst hbr
 replace hok:RH.Ok s 40 (⟨b67,ru,cu,rl,cl,U,L,T1⟩:RH):=hok
 replace hst:PSt (clS s c9) q V (2+100 * k) (RH.st (⟨b67,ru,cu,rl,cl,U,L,T1⟩:RH)).1 (RH.st (⟨b67,ru,cu,rl,cl,U,L,T1⟩:RH)).2:=hst
 have hul:U.length≤1000:=hok.lenU
 have hll9:L.length≤1000:=hok.lenL
 rw [← hbs,← hbf]
 refine Zb<|Zb<|Za<|gm Z rfl<|gm Z rfl<|gr Z (ZB Tryz.underlying30 Z)<|gr Z (by exact JI (b:=1) Z Z (by omega) (by omega)) ?_
 refine gr Z (ZX Z Z) (Zw (fun h72=>?_) (fun h72=>?_))
 ·obtain ⟨a,hx⟩:=get_some (show k<l.length by omega)
  have ham:=List.mem_of_getElem? hx
  have haw:=(hal a ham).w
  refine gA<|Zk rfl<|Zv<|Ze<|Zb<|ZC<|Zb<|Za<|gm Z rfl<|gm Z rfl<|gr Z (Z3 hl.t Tryz.underlying30 Zc3 Z Z (by omega) (by omega)) ?_
  refine gr Z (Zc Z (Zgs _))<|gr Z (Zi Tryz.underlying5 Z Z (XW hl.t (Zfs hx (j:=0) Z)))<|gr Z (Zkx Z Z (by exact Int.natCast_nonneg _) (by omega)) ?_
  refine gr Z (Z5 Z Z) (Zw (fun h81=>?_) (fun h81=>?_))
  ·refine gm Z rfl<|Zg Z rfl<|Zl Z (Zo Z)<|Zg Z rfl<|Zl Z (Zo Z)<|Zg Z rfl<|Zl Z (Zo Z)<|Zg Z rfl<|Zl Z (Zo Z)<|Zg Z Z (Zl Z (Z3 hl.t Tryz.underlying30 Zc3 Z Z (by omega) (by omega)) ?_)
   refine Zg Z Z (Zl Z (Zq Tryz.underlying28 Z Zc3 Z (W0 hl.t (Ye Ac.cells 8 (fun _=>rfl) hx)) Z) ?_)
   refine Zg Z Z (Zah [_,_,_,_,_,_,_,_,_,_] (q.hl++T1) [0,1,2] [3,4,5,6,7,8,9] 10 Z Z Z (vf:=[]) (vc:=[]) Z Z Tryz.call24 (by decide) (by decide) Z (fun w how hc=>playD_ok s hle hck q V _ c9 (⟨b67,ru,cu,rl,cl,U,L,T1⟩:RH) 40 hcq hlf hok hst _ w hc (by omega) (OrgIn.atIn hS how Zax) bp (Zfo (A:=[_,_,_,_]) (T:=[_,_,_]++(q.hl++T1)) (how.sub (ZS (A:=[_,_,_,_,_,_,_]) (B:=[_,_,_,_,_,_,_,_,_,_]) (T:=(q.hl++T1)) [6,7,8,9,0,1,2] 10 (by decide) (by decide) Z Z)) 0 2 3 Z Z Z hnd hns hnc) a (hal a ham) ⟨(hl.r a ham).s.atIn how (by decide) Zax,(hl.r a ham).c.atIn how (by decide) Zax⟩) ?_)
   rintro _ _ ⟨rfl,⟨br2,ru2,cu2,rl2,cl2,U2,L2,T2⟩,q3,V3,rfl,hbr2,hin2,hok2,hst3,hlk3⟩
   refine VA [_,_,_] (q3.hl++T2) [_,_,_,_,_,_,_] ?_
   replace hbr2:b67=br2:=hbr2.symm
   subst hbr2
   rw [← hlk3.bs,← hlk3.bf]
   refine Zg Z rfl<|Zl Z (rd_not Z)<|gr Z (Zp Z Z)<|gA<|Zm rfl<|Zv<|ZI<|Ze<|Za<|gm Z rfl<|gr Z (by exact ZN (b:=1) Z Z (by omega)) ?_
   refine gas Z rfl<|ZM<|Ze ?_
   exact ZR ((k+1,q3,V3,(⟨b67,ru2,cu2,rl2,cl2,U2,L2,T2⟩:RH))) ⟨⟨by simp only; omega,rfl,hok2,hst3.mono (by simp only; omega),rfl,rfl,hlk3.no hlf,hlk3.cap.trans hcq,hlk3.st.trans hfs⟩,by simp only; omega⟩ ⟨rfl,rfl,rfl,rfl,rfl,rfl,rfl,trivial⟩ (YI 0 rfl)
  refine gm Z rfl<|Zj Z Z rfl<|Zj Z Z rfl<|Zj Z Z rfl<|Zj Z Z rfl<|Zj Z Z rfl<|Zj Z Z rfl<|Zj Z Z rfl<|Zj Z Z rfl<|gr Z (Zn Z Z)<|gA<|Zm rfl<|Zv<|ZI<|Ze<|Za<|gm Z rfl<|gr Z (by exact ZN (b:=1) Z Z (by omega)) ?_
  refine gas Z rfl<|ZM<|Ze ?_
  exact ZR ((k+1,q,V,(⟨b67,ru,cu,rl,cl,U,L,T1⟩:RH))) ⟨⟨by simp only; omega,rfl,hok,hst.mono (by simp only; omega),rfl,rfl,hlf,hcq,hfs⟩,by simp only; omega⟩ ⟨rfl,rfl,rfl,rfl,rfl,rfl,rfl,trivial⟩ (YI 0 rfl)
 refine gA<|Zm rfl<|Z1<|Zt<|Zt<|ZE<|Ze<|Zb<|Za<|gm Z rfl<|Zs (ZJ Z (vf:=[]) (vc:=[]) Z Z Tryz.call25 (fun w1 ho=>rTwin_ok s 40 (⟨b67,ru,cu,rl,cl,U,L,T1⟩:RH) w1 (ho.blkCells 0 Z) (ho.rowSl 1 Z) (ho.rowSl 2 Z) hul hll9) ?_)
 rintro _ _ ⟨b93,ru9,cu9,rl9,cl9,rfl,rfl⟩
 refine gas Z rfl<|gA<|Zb ?_
 obtain ⟨a,hx⟩:=get_some (show l.length - 1<l.length by omega)
 have ham:=List.mem_of_getElem? hx
 have haw:=(hal a ham).w
 have hm5:=Nat.mod_lt a.what (show 0<5 by decide)
 refine Za<|gm Z rfl<|gm Z rfl<|gr Z (ZB Tryz.underlying30 Z)<|gr Z (by exact JI (b:=1) Z Z (by omega) (by omega)) ?_
 refine gr Z (Z3 hl.t Tryz.underlying30 Zc3 Z Z (by omega) (by omega)) ?_
 refine gr Z (Zq Tryz.underlying28 Z Zc3 Z (W0 hl.t (Ye Ac.cells 8 (fun _=>rfl) hx)) Z) ?_
 refine Zs (ZT Zc3 Z Z (fun b16=>?_))
 refine Zs (Zz 0 Zc3 Z Z Z Z Z Z (by rfl) ?_)
 refine gA<|Zb<|Za<|Zs (ZQ (sz:=1) Z Z (fun _=>Zec _ _ _ _ _) Z Z (fun b100=>?_))
 refine gr Z (Zc Z (Zgs _))<|gr Z (Zi Tryz.underlying5 Z Z (by exact Zr 1 Z Z)) ?_
 refine gr Z (Zkx Z Z (by exact Int.natCast_nonneg _) (by omega)) ?_
 refine gr Z (by exact Yr 0 Z Tryz.underlying65 YK Z Z (by omega) (by omega)) ?_
 refine gr Z (Zi Tryz.underlying5 Z Z (WA 0 Z (u8at hm5)))<|gr Z (Zc Z (Zgs _))<|Zs (Z8 1 YK Z Z Z Z Z (by rfl) (by rfl) ?_)
 refine gA<|Zb<|Zb<|Za<|gm Z rfl<|gr Z (Zc Z (fa_67_0 _))<|gr Z (Zi Tryz.underlying64 Z Z (by exact Zr 9 Z Z)) ?_
 refine gr Z (Xb Tryz.runUnderlying64 Tryz.runUnderlying3 Z (Vh (by omega))) ?_
 refine gr Z (by exact Vg (b:=400) Z Z (by omega)) ?_
 refine gr Z (Zc Z (Zqk _))<|gr Z (Zi Tryz.underlying65 Z Z (by exact Zr 9 Z Z)) ?_
 refine Zs (Yh [_,_,_,_,_,_,_,_,_,_,_,_,_,_,_] (q.hl++T1) Z Z (vf:=[]) (vc:=[]) Z Z Tryz.call14 Z (fun w how hc=>fuseT_ok (clS s c9) q V _ _ _ hst T1 _ w hc (nn % 400) (by omega) ps _ _ (hps.atTail (A:=[_,_,_,_,_,_,_,_,_,_,_,_,_,_,_]) how (by decide)) hp256 hpv) ?_)
 rintro _ _ ⟨rfl,q5,rfl,hst5,hbs5,hbf5,hcq5,hfs5⟩
 rw [← hbs5,← hbf5]
 have hokW:RH.Ok s 40 (⟨b93,ru9,cu9,rl9,cl9,U,L,T1⟩:RH):=⟨hok.p,hok.k⟩
 refine gr Z (Z5 Z Z) (Zw (fun h115=>?_) (fun h115=>?_))
 ·exact absurd rfl h115
 refine gA<|Zm rfl<|Zv<|Ze<|Zb<|Za<|gm Z rfl<|gm Z rfl<|gr Z (Zq Tryz.underlying28 Z Zc3 Z (by exact ZF 1 (off:=0) (k:=8) Z Z) Z) ?_
 refine Zs (Zah [_,_,_,_,_,_,_,_,_,_,_,_,_,_,_] (q5.hl++T1) [2,3,4] [0,1,5,6,7,8,9,10,11,12,13,14] 15 Z Z Z (vf:=[]) (vc:=[]) Z Z Tryz.call24 (by decide) (by decide) Z (fun w how hc=>Zoq s hle hck q5 V _ c9 (⟨b93,ru9,cu9,rl9,cl9,U,L,T1⟩:RH) 40 (hcq5.trans hcq) hokW hst5 _ w hc (by omega) (OrgIn.atIn hS how Zax) bp (Zfo (A:=[_,_,_,_]) (T:=[_,_,_]++(q5.hl++T1)) (how.sub (ZS (A:=[_,_,_,_,_,_,_]) (B:=[_,_,_,_,_,_,_,_,_,_,_,_,_,_,_]) (T:=(q5.hl++T1)) [11,12,13,14,2,3,4] 15 (by decide) (by decide) Z Z)) 0 2 3 Z Z Z hnd hns hnc) ({ a with what:=([0,0,0,6,7]:List Nat).getD (a.what % 5) 0 }:Ac) ⟨u8lt hm5,(hal a ham).s,(hal a ham).c⟩ ⟨(hl.r a ham).s.atIn how (by decide) Zax,(hl.r a ham).c.atIn how (by decide) Zax⟩) ?_)
 rintro _ _ (⟨rfl,⟨br2,ru2,cu2,rl2,cl2,U2,L2,T2⟩,q6,V7,rfl,hbr2,hin2,hok2,hst6,hlk6⟩ | ⟨hlf9,⟨b9,rfl⟩,⟨br2,ru2,cu2,rl2,cl2,U2,L2,T2⟩,q6,V1,V2,ta,tb,rfl,hbr2,hin2,hok2,hlk6,htn,hp1,hp2,hm1,hm2,hf1,hf2⟩)
 ·refine VA [_,_,_] (q6.hl++T2) [_,_,_,_,_,_,_,_,_,_,_,_] ?_
  replace hbr2:b93=br2:=hbr2.symm
  subst hbr2
  rw [← hlk6.bs,← hlk6.bf]
  have hpr7:=hst6.pr
  have hoff:=hst6.ok.off
  have hmid:∀ x:Pis,pnE s.ds.length x=0→Z7 s (RH.st (⟨b93,ru2,cu2,rl2,cl2,U2,L2,T2⟩:RH)) x [] []=Z7 s (RH.st (⟨b93,ru2,cu2,rl2,cl2,U2,L2,T2⟩:RH)) x [] []∨Z7 s (RH.st (⟨b93,ru2,cu2,rl2,cl2,U2,L2,T2⟩:RH)) x [] []=Z7 s (RH.st (⟨b93,ru2,cu2,rl2,cl2,U2,L2,T2⟩:RH)) x [] []:=fun x _=>.inl rfl
  refine gas Z rfl<|gA<|Zb<|Za<|gm Z rfl<|Zs (Yh [_,_,_,_,_,_,_,_,_,_,_,_,_,_,_] (q6.hl++T2) Z Z (vf:=[]) (vc:=[]) Z Z Tryz.call26 Z (fun w how hc=>Zos q6 hst6.ok.st.ok T2 _ w hc) ?_)
  rintro _ _ ⟨rfl,rfl⟩
  rw [hst6.ok.st.dn]
  refine gas Z rfl<|gA<|Zb<|Zb<|Za<|gm Z rfl<|gr Z (rd_not Z)<|gm Z rfl<|Zg Z rfl<|Zl Z (Zo Z)<|Zg Z rfl<|Zl Z (rd_not Z)<|gr Z (Zp Z Z)<|gm Z rfl<|Zg Z rfl<|Zl Z (Zo Z)<|Zg Z Z (Yh [_,_,_,_,_,_,_,_,_,_,_,_,_,_,_] (q6.hl++T2) Z Z (vf:=[]) (vc:=[]) Z Z Tryz.call27 Z (fun w how hc=>Zgl q6 hst6.ok.st.ok T2 _ w hc) ?_)
  rintro _ _ ⟨rfl,rfl⟩
  have hfs6:q6.f.st=1:=hlk6.st.trans (hfs5.trans hfs)
  refine Zg Z Z (Zl Z (Z5 Z Z) (Zw (fun h131=>?_) (fun h131=>?_)))
  ·exact absurd rfl h131
  refine gr Z (Zn Z Z)<|gA<|Zm rfl<|Zv<|Ze<|Zb<|Za<|gm Z rfl<|Zs (Yh [_,_,_,_,_,_,_,_,_,_,_,_,_,_,_] ((q6.withF (WG q6.f) none 0).hl++T2) Z Z (vf:=[]) (vc:=[]) Z Z Tryz.call28 Z (fun w how hc=>Zkw (q6.withF (WG q6.f) none 0) _ V7 hoff.restart Z Z (by show q6.f.st≤1000; omega) (by omega) T2 _ w hc) ?_)
  rintro _ _ ⟨q8,T8,rfl,rfl,hin8,hq8,hlf8⟩
  have hkX:∀ e∈(⟨b93,ru2,cu2,rl2,cl2,U2,L2,T2⟩:RH).L,KeM T8 e:=fun e he=>(hok2.k e he).mono hin8
  have hkT:∀ e∈(⟨b67,ru,cu,rl,cl,U,L,T1⟩:RH).L,KeM T8 e:=fun e he=>(hok.k e he).mono fun z hz=>hin8 z (hin2 z hz)
  refine gm Z rfl<|gr Z (ZA Z Z)<|gr Z (ZA Z Z)<|gas Z rfl<|gas Z rfl<|gA<|Zb<|Za<|gm Z rfl<|gr Z (Zq Tryz.underlying45 Z Xr Z (by exact ZF 10 (off:=0) (k:=4) Z Z) Z) ?_
  refine Zs (Yh [_,_,_,_,_,_,_,_,_,_,_,_,_,_,_] (q8.hl++T8) Z Z (vf:=[]) (vc:=[]) Z Z Tryz.call12 Z (fun w how hc=>Zor s hle hck q8 V7 _ (RH.st (⟨b93,ru2,cu2,rl2,cl2,U2,L2,T2⟩:RH)).1 (RH.st (⟨b93,ru2,cu2,rl2,cl2,U2,L2,T2⟩:RH)).2 hq8 hpr7 hpr7.v3 hlf8 T8 _ w hc (OrgIn.out (A:=[_,_,_,_,_,_,_,_,_,_,_,_,_,_,_]) hS how) (by omega)) ?_)
  rintro _ _ ⟨bp2,c2,q10,rfl,hst10,hlk10,rfl⟩
  refine gm Z rfl<|gr Z (ZA Z Z)<|gr Z (ZA Z Z)<|gas Z rfl<|gas Z rfl<|gA<|Zb<|Zb<|Za<|gm Z rfl<|gr Z (Z5 Z Z) (Zw (fun h145=>?_) (fun h145=>?_))
  ·exact absurd rfl h145
  refine gm Z rfl<|Zg Z rfl<|Zl Z (Zo Z)<|Zg Z Z (Zl Z (Z5 Z Z) (Zw (fun h148=>?_) (fun h148=>?_)))
  ·exact absurd rfl h148
  refine gr Z (Zn Z Z)<|gA<|Zm rfl<|Zv<|Ze<|Zb<|Zb<|Za<|gm Z rfl<|gr Z (rd_not Z)<|gA<|Zk rfl<|Za<|gm Z rfl<|gas Z rfl<|gA<|Zb<|Zb<|Za<|gas Z rfl<|ZM<|Ze ?_
  refine ZC<|ZZ (ι:=Nat) [(3,_),(11,_),(13,_),(15,_)] (_::_::_::_::_::_::_::_::_::_::_::_::_::_::_::_::_::_::_::(q10.hl++T8)) (fun lv=>1≤lv∧lv≤9) (fun lv Fr0=>((19,natV lv)::Fr0)) (fun lv Fr0=>Fr0) (fun lv=>9 - lv) 1 (⟨by decide,by decide⟩) ⟨rfl,rfl,rfl,rfl,rfl,trivial⟩ (YI 0 Z) ?_
  rintro lv ⟨hv1,hv9⟩
  refine Zb<|Zb<|Za<|gm Z rfl<|gr Z (XV Z Z) (Zw (fun h154=>?_) (fun h154=>?_))
  ·refine gA<|Zk rfl<|Zv<|Ze<|Zb<|ZC<|Zb<|Za<|gr Z (Zq Tryz.underlying45 Z Xr Z (by exact ZF 10 (off:=0) (k:=4) Z Z) Z) ?_
   refine gm Z rfl<|Zs (ZJ Z (vf:=[]) (vc:=[]) Z Z Tryz.call29 (fun w1 ho=>Zl3 s hnd ((lv:Nat):Int) w1) ?_)
   rintro _ _ ⟨ra,ca,rfl,rfl⟩
   refine gas Z rfl<|gA<|Zb<|Za<|gas Z rfl<|gA<|ZC<|ZZ (ι:=Nat) [(3,_),(11,_),(13,_),(15,_),(19,_),(20,_)] (_::_::_::_::_::_::_::_::_::_::_::_::_::_::_::_::_::_::_::_::(q10.hl++T8)) (fun j=>j≤(YD s.ds.length ((lv:Nat):Int)).length) (fun j Fr0=>((21,natV j)::Fr0)) (fun j Fr0=>Fr0) (fun j=>(YD s.ds.length ((lv:Nat):Int)).length - j) 0 (Nat.zero_le _) ⟨rfl,rfl,rfl,rfl,rfl,rfl,rfl,trivial⟩ (YI 0 Z) ?_
   rintro j hj
   refine Zb<|Zb<|Za<|gm Z rfl<|gm Z rfl<|gr Z (ZB Tryz.underlying56 Z)<|gr Z (ZX Z Z) (Zw (fun h163=>?_) (fun h163=>?_))
   ·have hal9:=X8 ((lv:Nat):Int) s.ds.length
    obtain ⟨x,hxx⟩:=get_some (show j<(YD s.ds.length ((lv:Nat):Int)).length by omega)
    have hpx:pnE s.ds.length x=0:=((Vv (by omega) (by omega)).1 (List.mem_of_getElem? hxx)).2
    refine gA<|Zk rfl<|Zv<|Ze<|Zb<|ZC<|Zb<|Za<|gm Z rfl<|gm Z rfl<|gm Z rfl<|gm Z rfl<|gm Z rfl<|gr Z (by exact YL 0 Z Tryz.underlying56 Yi Z Z (by omega) (by omega)) ?_
    refine gr Z (Zq Tryz.underlying23 Z Yi Z (JK 0 Z (Ye Pis.cells 3 (fun _=>rfl) hxx)) Z) ?_
    refine Zs (Yh [_,_,_,_,_,_,_,_,_,_,_,_,_,_,_,_,_,_,_,_] (q10.hl++T8) Z Z (vf:=[]) (vc:=[]) Z Z Tryz.call30 Z (fun w how hc=>Zot s hle hck 40 q10 V7 _ c2 (RH.st (⟨b93,ru2,cu2,rl2,cl2,U2,L2,T2⟩:RH)) hst10 (⟨b93,ru2,cu2,rl2,cl2,U2,L2,T2⟩:RH) (⟨b93,ru2,cu2,rl2,cl2,U2,L2,T2⟩:RH) hok2 hok2 _ w T8 hc (by omega) (OrgIn.out (A:=[_,_,_,_,_,_,_,_,_,_,_,_,_,_,_,_,_,_,_,_]) hS how) bp2 (Zfo (A:=[_,_,_,_,_,_,_,_,_,_,_,_,_,_,_,_,_,_,_,_]) how 16 18 19 Z Z Z hnd hns hnc) ⟨how.blkCells 1 rfl,how.blkOutT 1 rfl,how.rowSlT 2 rfl,how.rowSlT 3 rfl⟩ ⟨how.blkCells 1 rfl,how.blkOutT 1 rfl,how.rowSlT 2 rfl,how.rowSlT 3 rfl⟩ hkX hkX x (hmid x hpx)) ?_)
    rintro _ _ ⟨rfl,rfl⟩
    refine gr Z (rd_not Z)<|gA<|Zm rfl<|Zv<|ZI<|Ze<|Za<|gm Z rfl<|gr Z (by exact ZN (b:=1) Z Z (by omega)) ?_
    refine gas Z rfl<|ZM<|Ze ?_
    exact ZR (j+1) ⟨by omega,by omega⟩ ⟨rfl,rfl,rfl,rfl,rfl,rfl,rfl,trivial⟩ (YI 0 rfl)
   refine gA<|Zm rfl<|Z1<|Zt<|Zt<|ZE<|ZI<|Ze<|Za<|gm Z rfl<|gr Z (by exact ZN (b:=1) Z Z (by omega)) ?_
   refine gas Z rfl<|ZM<|Ze ?_
   exact ZR (lv+1) ⟨⟨by omega,by omega⟩,by omega⟩ ⟨rfl,rfl,rfl,rfl,rfl,trivial⟩ (YI 1 rfl)
  refine gA<|Zm rfl<|Z1<|Zt<|Zt<|ZE<|Ze<|Zb<|Za<|Zs (ZJ Z (vf:=[]) (vc:=[]) Z Z Tryz.call10 (fun w1 ho=>VK w1) ?_)
  rintro _ _ ⟨rfl,rfl⟩
  refine gas Z rfl<|gA<|Zu<|ZW (.inl Z) Tryz.results4 Z (J2 _) ?_
  exact ⟨rfl,rfl⟩
 refine VA [_,_,_] (q6.hl++T2) [_,_,_,_,_,_,_,_,_,_,_,_] ?_
 replace hbr2:b93=br2:=hbr2.symm
 subst hbr2
 rw [← hlk6.bs,← hlk6.bf]
 have hcq6:q6.cap=40:=hlk6.cap.trans (hcq5.trans hcq)
 obtain ⟨V7,t0,ht0,hoff,hpr7⟩:=off_torn htn hp1 hp2 (by rw [hcq6]; exact hf1) (by rw [hcq6]; exact hf2)
 have hmm:Mid s.ds.length (RH.st (⟨b93,ru9,cu9,rl9,cl9,U,L,T1⟩:RH)).2 (RH.st (⟨b93,ru2,cu2,rl2,cl2,U2,L2,T2⟩:RH)).2 t0.2:=by rcases ht0 with rfl | rfl <;> assumption
 have hmid:∀ x:Pis,pnE s.ds.length x=0→Z7 s t0 x [] []=Z7 s (RH.st (⟨b67,ru,cu,rl,cl,U,L,T1⟩:RH)) x [] []∨Z7 s t0 x [] []=Z7 s (RH.st (⟨b93,ru2,cu2,rl2,cl2,U2,L2,T2⟩:RH)) x [] []:=fun x hx=>(hmm x hx).imp (fun h=>Zom h) (fun h=>Zom h)
 refine gas Z rfl<|gA<|Zb<|Za<|gm Z rfl<|Zs (Yh [_,_,_,_,_,_,_,_,_,_,_,_,_,_,_] (q6.hl++T2) Z Z (vf:=[]) (vc:=[]) Z Z Tryz.call26 Z (fun w how hc=>Zos q6 htn.ok T2 _ w hc) ?_)
 rintro _ _ ⟨rfl,rfl⟩
 rw [htn.dn]
 refine gas Z rfl<|gA<|Zb<|Zb<|Za<|gm Z rfl<|gr Z (rd_not Z)<|gm Z rfl<|Zj Z Z rfl<|Zj Z Z rfl<|gr Z (Zn Z Z)<|gm Z rfl<|Zg Z rfl<|Zl Z (Zo Z)<|Zg Z Z (Yh [_,_,_,_,_,_,_,_,_,_,_,_,_,_,_] (q6.hl++T2) Z Z (vf:=[]) (vc:=[]) Z Z Tryz.call27 Z (fun w how hc=>Zgl q6 htn.ok T2 _ w hc) ?_)
 rintro _ _ ⟨rfl,rfl⟩
 have hfs6:q6.f.st=1:=hlk6.st.trans (hfs5.trans hfs)
 refine Zg Z Z (Zl Z (Z5 Z Z) (Zw (fun h131=>?_) (fun h131=>?_)))
 ·exact absurd rfl h131
 refine gr Z (Zn Z Z)<|gA<|Zm rfl<|Zv<|Ze<|Zb<|Za<|gm Z rfl<|Zs (Yh [_,_,_,_,_,_,_,_,_,_,_,_,_,_,_] ((q6.withF (WG q6.f) none 0).hl++T2) Z Z (vf:=[]) (vc:=[]) Z Z Tryz.call28 Z (fun w how hc=>Zkw (q6.withF (WG q6.f) none 0) _ V7 hoff.restart Z Z (by show q6.f.st≤1000; omega) (by omega) T2 _ w hc) ?_)
 rintro _ _ ⟨q8,T8,rfl,rfl,hin8,hq8,hlf8⟩
 have hkX:∀ e∈(⟨b93,ru2,cu2,rl2,cl2,U2,L2,T2⟩:RH).L,KeM T8 e:=fun e he=>(hok2.k e he).mono hin8
 have hkT:∀ e∈(⟨b67,ru,cu,rl,cl,U,L,T1⟩:RH).L,KeM T8 e:=fun e he=>(hok.k e he).mono fun z hz=>hin8 z (hin2 z hz)
 refine gm Z rfl<|gr Z (ZA Z Z)<|gr Z (ZA Z Z)<|gas Z rfl<|gas Z rfl<|gA<|Zb<|Za<|gm Z rfl<|gr Z (Zq Tryz.underlying45 Z Xr Z (by exact ZF 10 (off:=0) (k:=4) Z Z) Z) ?_
 refine Zs (Yh [_,_,_,_,_,_,_,_,_,_,_,_,_,_,_] (q8.hl++T8) Z Z (vf:=[]) (vc:=[]) Z Z Tryz.call12 Z (fun w how hc=>Zor s hle hck q8 V7 _ t0.1 t0.2 hq8 hpr7 hpr7.v3 hlf8 T8 _ w hc (OrgIn.out (A:=[_,_,_,_,_,_,_,_,_,_,_,_,_,_,_]) hS how) (by omega)) ?_)
 rintro _ _ ⟨bp2,c2,q10,rfl,hst10,hlk10,rfl⟩
 refine gm Z rfl<|gr Z (ZA Z Z)<|gr Z (ZA Z Z)<|gas Z rfl<|gas Z rfl<|gA<|Zb<|Zb<|Za<|gm Z rfl<|gr Z (Z5 Z Z) (Zw (fun h145=>?_) (fun h145=>?_))
 ·exact absurd rfl h145
 refine gm Z rfl<|Zg Z rfl<|Zl Z (Zo Z)<|Zg Z Z (Zl Z (Z5 Z Z) (Zw (fun h148=>?_) (fun h148=>?_)))
 ·exact absurd rfl h148
 refine gr Z (Zn Z Z)<|gA<|Zm rfl<|Zv<|Ze<|Zb<|Zb<|Za<|gm Z rfl<|gr Z (rd_not Z)<|gA<|Zm rfl<|Zv<|Ze<|Zb<|Zb<|Za<|gas Z rfl<|gA<|ZC<|ZZ (ι:=Nat) [(3,_),(11,_),(13,_),(15,_)] (_::_::_::_::_::_::_::_::_::_::_::_::_::_::_::_::_::_::_::(q10.hl++T8)) (fun lv=>1≤lv∧lv≤9) (fun lv Fr0=>((19,natV lv)::Fr0)) (fun lv Fr0=>Fr0) (fun lv=>9 - lv) 1 (⟨by decide,by decide⟩) ⟨rfl,rfl,rfl,rfl,rfl,trivial⟩ (YI 0 Z) ?_
 rintro lv ⟨hv1,hv9⟩
 refine Zb<|Zb<|Za<|gm Z rfl<|gr Z (XV Z Z) (Zw (fun h154=>?_) (fun h154=>?_))
 ·refine gA<|Zk rfl<|Zv<|Ze<|Zb<|ZC<|Zb<|Za<|gr Z (Zq Tryz.underlying45 Z Xr Z (by exact ZF 10 (off:=0) (k:=4) Z Z) Z) ?_
  refine gm Z rfl<|Zs (ZJ Z (vf:=[]) (vc:=[]) Z Z Tryz.call29 (fun w1 ho=>Zl3 s hnd ((lv:Nat):Int) w1) ?_)
  rintro _ _ ⟨ra,ca,rfl,rfl⟩
  refine gas Z rfl<|gA<|Zb<|Za<|gas Z rfl<|gA<|ZC<|ZZ (ι:=Nat) [(3,_),(11,_),(13,_),(15,_),(19,_),(20,_)] (_::_::_::_::_::_::_::_::_::_::_::_::_::_::_::_::_::_::_::_::(q10.hl++T8)) (fun j=>j≤(YD s.ds.length ((lv:Nat):Int)).length) (fun j Fr0=>((21,natV j)::Fr0)) (fun j Fr0=>Fr0) (fun j=>(YD s.ds.length ((lv:Nat):Int)).length - j) 0 (Nat.zero_le _) ⟨rfl,rfl,rfl,rfl,rfl,rfl,rfl,trivial⟩ (YI 0 Z) ?_
  rintro j hj
  refine Zb<|Zb<|Za<|gm Z rfl<|gm Z rfl<|gr Z (ZB Tryz.underlying56 Z)<|gr Z (ZX Z Z) (Zw (fun h163=>?_) (fun h163=>?_))
  ·have hal9:=X8 ((lv:Nat):Int) s.ds.length
   obtain ⟨x,hxx⟩:=get_some (show j<(YD s.ds.length ((lv:Nat):Int)).length by omega)
   have hpx:pnE s.ds.length x=0:=((Vv (by omega) (by omega)).1 (List.mem_of_getElem? hxx)).2
   refine gA<|Zk rfl<|Zv<|Ze<|Zb<|ZC<|Zb<|Za<|gm Z rfl<|gm Z rfl<|gm Z rfl<|gm Z rfl<|gm Z rfl<|gr Z (by exact YL 0 Z Tryz.underlying56 Yi Z Z (by omega) (by omega)) ?_
   refine gr Z (Zq Tryz.underlying23 Z Yi Z (JK 0 Z (Ye Pis.cells 3 (fun _=>rfl) hxx)) Z) ?_
   refine Zs (Yh [_,_,_,_,_,_,_,_,_,_,_,_,_,_,_,_,_,_,_,_] (q10.hl++T8) Z Z (vf:=[]) (vc:=[]) Z Z Tryz.call30 Z (fun w how hc=>Zot s hle hck 40 q10 V7 _ c2 t0 hst10 (⟨b67,ru,cu,rl,cl,U,L,T1⟩:RH) (⟨b93,ru2,cu2,rl2,cl2,U2,L2,T2⟩:RH) hok hok2 _ w T8 hc (by omega) (OrgIn.out (A:=[_,_,_,_,_,_,_,_,_,_,_,_,_,_,_,_,_,_,_,_]) hS how) bp2 (Zfo (A:=[_,_,_,_,_,_,_,_,_,_,_,_,_,_,_,_,_,_,_,_]) how 16 18 19 Z Z Z hnd hns hnc) ⟨how.blkCells 6 rfl,how.blkOutT 6 rfl,how.rowSlT 7 rfl,how.rowSlT 8 rfl⟩ ⟨how.blkCells 1 rfl,how.blkOutT 1 rfl,how.rowSlT 2 rfl,how.rowSlT 3 rfl⟩ hkT hkX x (hmid x hpx)) ?_)
   rintro _ _ ⟨rfl,rfl⟩
   refine gr Z (rd_not Z)<|gA<|Zm rfl<|Zv<|ZI<|Ze<|Za<|gm Z rfl<|gr Z (by exact ZN (b:=1) Z Z (by omega)) ?_
   refine gas Z rfl<|ZM<|Ze ?_
   exact ZR (j+1) ⟨by omega,by omega⟩ ⟨rfl,rfl,rfl,rfl,rfl,rfl,rfl,trivial⟩ (YI 0 rfl)
  refine gA<|Zm rfl<|Z1<|Zt<|Zt<|ZE<|ZI<|Ze<|Za<|gm Z rfl<|gr Z (by exact ZN (b:=1) Z Z (by omega)) ?_
  refine gas Z rfl<|ZM<|Ze ?_
  exact ZR (lv+1) ⟨⟨by omega,by omega⟩,by omega⟩ ⟨rfl,rfl,rfl,rfl,rfl,trivial⟩ (YI 1 rfl)
 refine gA<|Zm rfl<|Z1<|Zt<|Zt<|ZE<|Ze<|Zb<|Za<|Zs (ZJ Z (vf:=[]) (vc:=[]) Z Z Tryz.call10 (fun w1 ho=>VK w1) ?_)
 rintro _ _ ⟨rfl,rfl⟩
 refine gas Z rfl<|gA<|Zu<|ZW (.inl Z) Tryz.results4 Z (J2 _) ?_
 exact ⟨rfl,rfl⟩
end Go.Proofs.YthcbcdjkfefnlaaGreatDoor
