import Derived.Test.YthcbcdjkfefnlaaGreatDoorW05
import Derived.Test.YthcbcdjkfefnlaaGreatDoorW01
import Derived.Test.YthcbcdjkfefnlaaGreatDoorW00
/- A part of the proof: walks of the program. -/
set_option autoImplicit false
set_option linter.unusedSimpArgs false
set_option linter.unusedVariables false
set_option linter.unnecessarySimpa false
set_option maxRecDepth 100000
set_option maxHeartbeats 8000000
namespace Go.Proofs.YthcbcdjkfefnlaaGreatDoor
open Go.Gv
open Go.RowKit
open Go.Sn hiding En keysP keysP_len stop_ok
open Go.Ps
open Iv Sx Ip
namespace Ip
theorem RfIn.sp {s:Org} {room:Nat} {t:RH} {w:World} {S:List Nat} (h:RfIn s room t w S):Cells w ((⟨t.br,0,none⟩:Addr).add 0) [.slice s.da s.ds.length s.dc,.slice s.ra s.rs.length s.rc,.slice s.sa s.ss.length s.sc,.slice s.ca s.cs.length s.cc]:=fun j v hv=>by
 have h2:=h.p j v (by
  rcases j with _ | _ | _ | _ | j
  ·exact hv
  ·exact hv
  ·exact hv
  ·exact hv
  ·simp at hv)
 exact h2
end Ip
open Ip
theorem Zkj (s:Org) (hle:OrgLe s) (hck:(Yo s).2=0) (room:Nat) (t:RH) (ht:t.Ok s room) (w0:World) (hS:OrgIn s w0 []) (hR:RfIn s room t w0 []) (x:Pis) (ss cs:List Int) (a1 a2:Option Addr) (c1 c2:Nat) (hl1:ss.length≤140737488355328) (hl2:cs.length≤140737488355328) (h1:OldSl w0 [] a1 ss.length 1 (ss.map Xy)) (h2:OldSl w0 [] a2 cs.length 1 (cs.map Xy)):Sp Tryz.prog 63 [.pointer (some ⟨t.br,0,none⟩),Pis.val x,.agg #[.slice a1 ss.length c1,.slice a2 cs.length c2]] w0 [] (fun v L=>∃ (r:Option Nat) (d:Nat) (r2:Option Nat) (d2:Nat),v=.tuple #[.agg #[.slice (rowA r) (Yp s t.st x ss cs).1.1.length d,.slice (rowA r2) (Yp s t.st x ss cs).1.2.length d2],.int .i64 (Yp s t.st x ss cs).2]∧L=[.row 3 1 r (Yp s t.st x ss cs).1.1.length d ((Yp s t.st x ss cs).1.1.map natV),.row 3 1 r2 (Yp s t.st x ss cs).1.2.length d2 ((Yp s t.st x ss cs).1.2.map natV)]):=by
 have hp:=hR.p
 have hsp:=hR.sp
 have hnd:=ht.p.hnd
 have hns:=ht.p.hns
 have hnc:=ht.p.hnc
 have hll:=ht.lenL
 refine ZC Tryz.func63 rfl Tryz.ntmps63 rfl (Own.refl _) ?_
 simp only [ZV]
 refine Zb<|Za<|Zt (Z6 rfl rfl rfl (fun b4=>?_))
 refine Zt (Z6 rfl rfl rfl (fun b5=>?_))
 refine Zt (ZU Z5 rfl rfl (fun b6=>?_))
 refine gas rfl rfl<|gA<|Zb<|ZO [0,1,2] true 6 rfl<|Zc 0 rfl rfl ⟨[0,1,2],by decide,rfl⟩ (Zf (Zo rfl)) ?_
 refine Zc 1 rfl rfl ⟨[0,1,2],by decide,rfl⟩ (Zf (ZN rfl)) ?_
 refine Zc 2 rfl rfl ⟨[0,1,2],by decide,rfl⟩ (Zf (Zd rfl (VG _))) ?_
 refine Zc 3 rfl rfl ⟨[0,1,2],by decide,rfl⟩ (Zf (Zr Tryz.underlying45 rfl Xu rfl (by exact Zej (by assumption) (by simp)) rfl)) ?_
 refine Zc 4 rfl rfl ⟨[0,1,2],by decide,rfl⟩ (Zf (Zr Tryz.underlying23 rfl Yg rfl (by exact ZH 2 (off:=0) (k:=3) rfl rfl) rfl)) ?_
 refine Zc 5 rfl rfl ⟨[0,1,2],by decide,rfl⟩ (YE (vf:=[]) (vc:=[]) rfl rfl Tryz.call99 (fun w1 ho=>Zdb s hnd x w1) (by rintro _ _ ⟨h,_⟩; exact h)) ?_
 refine Zc 6 rfl rfl ⟨[0,1,2],by decide,rfl⟩ (Zf (ZY rfl)) ?_
 refine ZP (.inr ⟨[0,1,2],by decide,rfl⟩) ?_
 refine Ze<|Zb<|Zb<|Za<|gm rfl rfl<|gr rfl (Z8 rfl rfl) (Zw (fun h17=>?_) (fun h17=>?_))
 ·refine gA<|Zk rfl<|ZO [0,1,2] true 6 rfl<|Zc 0 rfl rfl ⟨[0,1,2],by decide,rfl⟩ (Zf (Zo rfl)) ?_
  refine Zc 1 rfl rfl ⟨[0,1,2],by decide,rfl⟩ (Zf (ZN rfl)) ?_
  refine Zc 2 rfl rfl ⟨[0,1,2],by decide,rfl⟩ (Zf (Zd rfl (VG _))) ?_
  refine Zc 3 rfl rfl ⟨[0,1,2],by decide,rfl⟩ (Zf (Zr Tryz.underlying45 rfl Xu rfl (by exact Zej (by assumption) (by simp)) rfl)) ?_
  refine Zc 4 rfl rfl ⟨[0,1,2],by decide,rfl⟩ (Zf (Zr Tryz.underlying26 rfl Z5 rfl (by exact ZH 1 (off:=0) (k:=2) rfl rfl) rfl)) ?_
  refine Zc 5 rfl rfl ⟨[0,1,2],by decide,rfl⟩ (YE (vf:=[]) (vc:=[]) rfl rfl Tryz.call31 (fun w1 ho=>Za8 s hle hnd hns hnc w1 (hS.at ho) hck ss cs _ _ _ _ hl1 hl2 (h1.at ho) (h2.at ho)) (by rintro _ _ ⟨h,_⟩; exact h)) ?_
  refine Zc 6 rfl rfl ⟨[0,1,2],by decide,rfl⟩ (Zf (ZY rfl)) ?_
  refine ZP (.inr ⟨[0,1,2],by decide,rfl⟩) ?_
  refine Ze<|Zb<|Zb<|Za<|gm rfl rfl<|gr rfl (Z4 rfl rfl) (Zw (fun h25=>?_) (fun h25=>?_))
  ·refine gA<|Zk rfl<|Zb<|YH 3 1<|YH 3 1<|Za<|gr rfl (ZT rfl (fun _=>Zey)) ?_
   refine gm rfl rfl<|Zt (Zz 2 Z5 rfl rfl rfl rfl rfl rfl (by rfl) ?_)
   refine gas rfl rfl<|gA<|Zu<|Zh<|WA (.inl rfl) Tryz.results63 (YC Tryz.underlying26 rfl Z5 rfl (by rfl) (ZH 2 (off:=0) (k:=2) rfl rfl)) (YU rfl) ⟨[0,1],by decide,rfl⟩ ?_
   unfold Yp
   rw [if_neg (by omega),if_pos h25]
   exact ⟨none,0,none,0,rfl,rfl⟩
  obtain ⟨r,rfl,rfl,hr⟩:=Ze7 (Classical.not_not.1 h25)
  rw [YA] at h1 h2
  rw [Wl] at h1 h2
  simp only [YA]
  refine gA<|Zl rfl<|Zv<|Ze<|Zb<|Za<|gm rfl rfl<|gr rfl (Zr Tryz.underlying23 rfl Yg rfl (by exact ZH 2 (off:=0) (k:=3) rfl rfl) rfl) ?_
  refine Zt (ZJ rfl (vf:=[]) (vc:=[]) rfl rfl Tryz.call100 (fun w1 ho=>Zfk s room t w1 (hR.at ho).p (hR.at ho).l hll x) ?_)
  rintro _ _ ⟨rfl,z,rfl,hz⟩
  refine gas rfl rfl<|gA<|Zb<|Zb<|Za<|gm rfl rfl<|gr rfl (ZX rfl rfl) (Zw (fun h32=>?_) (fun h32=>?_))
  ·refine gA<|Zk rfl<|Zb<|YH 3 1<|YH 3 1<|Za<|gr rfl (ZT rfl (fun _=>Zey)) ?_
   refine Zt (Zz 2 Z5 rfl rfl rfl rfl rfl rfl (by rfl) ?_)
   refine gas rfl rfl<|gA<|Zu<|Zh<|WA (.inl rfl) Tryz.results63 (YC Tryz.underlying26 rfl Z5 rfl (by rfl) (ZH 2 (off:=0) (k:=2) rfl rfl)) (YU rfl) ⟨[0,1],by decide,rfl⟩ ?_
   unfold Yp
   rw [if_neg (by omega),if_neg h25,hz.none h32]
   exact ⟨none,0,none,0,rfl,rfl⟩
  obtain ⟨i,e,rfl,hei,rfl,hpl⟩:=hz.some h32
  have hem:=List.mem_of_getElem? hei
  have hil:i<t.L.length:=(List.getElem?_eq_some_iff.1 hei).1
  refine gA<|Zl rfl<|Zv<|Ze<|Zb<|ZO [1,2] false 16 rfl<|Zc 0 rfl rfl ⟨[1,2],by decide,rfl⟩ (Zf (Zo rfl)) ?_
  refine Zc 1 rfl rfl ⟨[1,2],by decide,rfl⟩ (Zf (ZN rfl)) ?_
  refine Zc 2 rfl rfl ⟨[1,2],by decide,rfl⟩ (Zf (Zd rfl (VG _))) ?_
  refine Zc 3 rfl rfl ⟨[1,2],by decide,rfl⟩ (Zf (Zr Tryz.underlying45 rfl Xu rfl (by exact Zej (by assumption) (by simp)) rfl)) ?_
  refine Zc 4 rfl rfl ⟨[1,2],by decide,rfl⟩ (Zf (Zr Tryz.underlying23 rfl Yg rfl (by exact ZH 1 (off:=0) (k:=3) rfl rfl) rfl)) ?_
  refine Zc 5 rfl rfl ⟨[1,2],by decide,rfl⟩ (Zf (Zo rfl)) ?_
  refine Zc 6 rfl rfl ⟨[1,2],by decide,rfl⟩ (Zf (ZN rfl)) ?_
  refine Zc 7 rfl rfl ⟨[1,2],by decide,rfl⟩ (Zf (Zd rfl (Y6 _))) ?_
  refine Zc 8 rfl rfl ⟨[1,2],by decide,rfl⟩ (Zf (Zi Tryz.underlying74 rfl rfl (Yj hp (by simp) (j:=6) rfl))) ?_
  refine Zc 9 rfl rfl ⟨[1,2],by decide,rfl⟩ (Zf (Zo rfl)) ?_
  refine Zc 10 rfl rfl ⟨[1,2],by decide,rfl⟩ (Zf (Z3 hR.l Tryz.underlying74 Xe rfl rfl (by omega) (by omega))) ?_
  refine Zc 11 rfl rfl ⟨[1,2],by decide,rfl⟩ (Zf (Zd rfl (Zbr _))) ?_
  refine Zc 12 rfl rfl ⟨[1,2],by decide,rfl⟩ (Zf (Zr Tryz.underlying26 rfl Z5 rfl (Zfi hR.l (YD keC 5 (fun _=>rfl) hei (j:=3) (n:=2) (by decide))) rfl)) ?_
  refine Zc 13 rfl rfl ⟨[1,2],by decide,rfl⟩ (Zf (Zr Tryz.underlying26 rfl Z5 rfl (by exact ZH 0 (off:=0) (k:=2) rfl rfl) rfl)) ?_
  refine ZK 14 rfl (.inr ⟨[1,2],by decide,rfl⟩) (ZJ rfl (vf:=[]) (vc:=[]) rfl rfl Tryz.call101 (fun w1 ho=>Zf8 s hle hnd hns hnc w1 (hS.at ho) e.x e.r r (ht.rg hem) hr _ _ _ _ _ _ _ _ ((hR.k _ hem).at ho).s ((hR.k _ hem).at ho).c (h1.at ho) (h2.at ho)) ?_)
  rintro _ _ ⟨rS,dS,rC,dC,rfl,rfl⟩
  refine ZK 15 rfl (.inr ⟨[3,4],by decide,rfl⟩) (Zz 2 Z5 rfl rfl rfl rfl rfl rfl (by rfl) ?_)
  refine ZK 16 rfl (.inr ⟨[3,4],by decide,rfl⟩) (Zm rfl (ZY rfl) ?_)
  refine ZP (.inl (by kernel_rfl)) ?_
  refine Ze<|Zu<|WA (.inl rfl) Tryz.results63 (YC Tryz.underlying26 rfl Z5 rfl (by rfl) (ZH 2 (off:=0) (k:=2) rfl rfl)) (YU rfl) ⟨[0,1],by decide,rfl⟩ ?_
  unfold Yp
  rw [if_neg (by omega),if_neg h25,hpl,VC]
  exact ⟨rS,dS,rC,dC,rfl,rfl⟩
 refine gA<|Zl rfl<|Zv<|Ze<|Zb<|Zb<|Za<|gm rfl rfl<|gr rfl (Z4 rfl rfl) (Zw (fun h25=>?_) (fun h25=>?_))
 ·refine gA<|Zk rfl<|Zb<|YH 3 1<|YH 3 1<|Za<|gr rfl (ZT rfl (fun _=>Zey)) ?_
  refine gm rfl rfl<|Zt (Zz 2 Z5 rfl rfl rfl rfl rfl rfl (by rfl) ?_)
  refine gas rfl rfl<|gA<|Zu<|Zh<|WA (.inl rfl) Tryz.results63 (YC Tryz.underlying26 rfl Z5 rfl (by rfl) (ZH 2 (off:=0) (k:=2) rfl rfl)) (YU rfl) ⟨[0,1],by decide,rfl⟩ ?_
  unfold Yp
  rw [if_pos h17]
  exact ⟨none,0,none,0,rfl,rfl⟩
 exact absurd (Classical.not_not.1 h25) h17
theorem rList_ok (s:Org) (room:Nat) (t:RH) (ht:t.Ok s room) (w0:World) (hR:RfIn s room t w0 []):Sp Tryz.prog 67 [.pointer (some ⟨t.br,0,none⟩)] w0 [] (fun v L=>∃ (r:Option Nat) (d:Nat),v=.slice (rowA r) (t.L.map KE.x).length d∧L=[.row 23 3 r (t.L.map KE.x).length d ((t.L.map KE.x).flatMap Pis.cells)]):=by
 have hp:=hR.p
 have hll:=ht.lenL
 refine ZC Tryz.func67 rfl Tryz.ntmps67 rfl (Own.refl _) ?_
 simp only [ZV]
 refine Zb<|Za<|gas rfl rfl<|gA<|Zb<|Za<|gas rfl rfl<|gA<|Zb<|Zb<|Za<|gas rfl rfl<|gA<|ZB<|YH 23 3<|ZZ (ι:=Nat × Option Nat × Nat) [(0,_)] [] (fun q=>q.1≤t.L.length) (fun q Fr0=>((3,.slice (rowA q.2.1) ((t.L.take q.1).map KE.x).length q.2.2)::(4,natV q.1)::Fr0)) (fun q Fr0=>(.row 23 3 q.2.1 ((t.L.take q.1).map KE.x).length q.2.2 (((t.L.take q.1).map KE.x).flatMap Pis.cells)::Fr0)) (fun q=>t.L.length - q.1) (0,none,0) (Nat.zero_le _) ⟨rfl,rfl,rfl,trivial⟩ ⟨[0],by decide,rfl⟩ ?_
 rintro ⟨k,ro,co⟩ hk
 simp only at hk ⊢
 refine Zb<|Zb<|Za<|gm rfl rfl<|gm rfl rfl<|gnc rfl rfl<|gr rfl (Zd rfl (Y6 _))<|gr rfl (Zi Tryz.underlying74 rfl rfl (Yj hp (by simp) (j:=6) rfl)) ?_
 refine gr rfl (ZA Tryz.underlying74 rfl)<|gr rfl (ZX rfl rfl) (Zw (fun h11=>?_) (fun h11=>?_))
 ·obtain ⟨e1,hx⟩:=get_some (show k<t.L.length by omega)
  have hml:((t.L.take k).map KE.x).length≤1000:=by simp; omega
  refine gA<|Zk rfl<|Zv<|Ze<|Zb<|ZB<|Za<|gm rfl rfl<|gm rfl rfl<|gnc rfl rfl<|gr rfl (Zd rfl (Y6 _))<|gr rfl (Zi Tryz.underlying74 rfl rfl (Yj hp (by simp) (j:=6) rfl)) ?_
  refine gm rfl rfl<|gr rfl (Z3 hR.l Tryz.underlying74 Xe rfl rfl (by omega) (by omega)) ?_
  refine gr rfl (Zd rfl (Vl _))<|gr rfl (Zr Tryz.underlying23 rfl Yg rfl (Zfi hR.l (YD keC 5 (fun _=>rfl) hx (j:=0) (n:=3) (by decide))) rfl) ?_
  refine Zt (ZQ (sz:=3) rfl rfl (fun _=>Jb _ _ _) rfl rfl (fun b23=>?_))
  refine Zt (Yb 1 0 Tryz.underlying56 Yg rfl (by decide) rfl rfl rfl rfl rfl (by simp [Value.oneCell']) (by omega) (by omega) (fun _=>(by rfl)) (fun r24 c24=>?_))
  refine gas rfl rfl<|ZM<|ZI<|Ze<|Za<|gm rfl rfl<|gr rfl (by exact ZL (b:=1) rfl rfl (by omega)) ?_
  refine gas rfl rfl<|ZM<|Ze ?_
  have ht9:=map_at hx
  rw [show ((t.L.take k).map KE.x).length+1=((t.L.take (k+1)).map KE.x).length by rw [ht9,List.length_append]; rfl,show ((t.L.take k).map KE.x).flatMap Pis.cells++[.int .i64 e1.x.lv,.int .i64 e1.x.dv,.int .i64 e1.x.nm]=((t.L.take (k+1)).map KE.x).flatMap Pis.cells by rw [ht9,List.flatMap_append]; rfl]
  exact ZR ((k+1,r24,c24)) ⟨by simp only; omega,by simp only; omega⟩ ⟨rfl,rfl,rfl,trivial⟩ ⟨[1],by decide,rfl⟩
 refine gA<|Zl rfl<|Z1<|Zs<|Zs<|ZE<|Ze<|Zb ?_
 rw [List.take_of_length_le (by omega)]
 refine Za<|gm rfl rfl<|gas rfl rfl<|gA<|Zu<|Zy (.inl rfl) Tryz.results67 rfl [0] (by decide) ?_
 exact ⟨ro,co,rfl,rfl⟩
theorem rLit_ok (s:Org) (hle:OrgLe s) (hck:(Yo s).2=0) (room:Nat) (t:RH) (ht:t.Ok s room) (w0:World) (hS:OrgIn s w0 []) (hR:RfIn s room t w0 []) (ss cs:List Int) (a1 a2:Option Addr) (c1 c2:Nat) (hl1:ss.length≤140737488355328) (hl2:cs.length≤140737488355328) (h1:OldSl w0 [] a1 ss.length 1 (ss.map Xy)) (h2:OldSl w0 [] a2 cs.length 1 (cs.map Xy)):Sp Tryz.prog 66 [.pointer (some ⟨t.br,0,none⟩),.agg #[.slice a1 ss.length c1,.slice a2 cs.length c2]] w0 [] (fun v L=>∃ (r:Option Nat) (d:Nat),v=.tuple #[.slice (rowA r) (Wn s t.st ss cs).1.length d,.int .i64 (Wn s t.st ss cs).2]∧L=[.row 23 3 r (Wn s t.st ss cs).1.length d ((Wn s t.st ss cs).1.flatMap Pis.cells)]):=by
 have hp:=hR.p
 have hsp:=hR.sp
 have hnd:=ht.p.hnd
 have hns:=ht.p.hns
 have hnc:=ht.p.hnc
 have hll:=ht.lenL
 refine ZC Tryz.func66 rfl Tryz.ntmps66 rfl (Own.refl _) ?_
 simp only [ZV]
 refine Zb<|Za<|Zt (Z6 rfl rfl rfl (fun b3=>?_))
 refine gas rfl rfl<|gas rfl rfl<|gA<|Zb<|ZO [0] true 6 rfl<|Zc 0 rfl rfl ⟨[0],by decide,rfl⟩ (Zf (Zo rfl)) ?_
 refine Zc 1 rfl rfl ⟨[0],by decide,rfl⟩ (Zf (ZN rfl)) ?_
 refine Zc 2 rfl rfl ⟨[0],by decide,rfl⟩ (Zf (Zd rfl (VG _))) ?_
 refine Zc 3 rfl rfl ⟨[0],by decide,rfl⟩ (Zf (Zr Tryz.underlying45 rfl Xu rfl (by exact Zej (by assumption) (by simp)) rfl)) ?_
 refine Zc 4 rfl rfl ⟨[0],by decide,rfl⟩ (Zf (Zr Tryz.underlying26 rfl Z5 rfl (by exact ZH 0 (off:=0) (k:=2) rfl rfl) rfl)) ?_
 refine Zc 5 rfl rfl ⟨[0],by decide,rfl⟩ (YE (vf:=[]) (vc:=[]) rfl rfl Tryz.call31 (fun w1 ho=>Za8 s hle hnd hns hnc w1 (hS.at ho) hck ss cs _ _ _ _ hl1 hl2 (h1.at ho) (h2.at ho)) (by rintro _ _ ⟨h,_⟩; exact h)) ?_
 refine Zc 6 rfl rfl ⟨[0],by decide,rfl⟩ (Zf (ZY rfl)) ?_
 refine ZP (.inr ⟨[0],by decide,rfl⟩) ?_
 refine Ze<|Zb<|Zb<|Za<|gm rfl rfl<|gr rfl (Z4 rfl rfl) (Zw (fun h16=>?_) (fun h16=>?_))
 ·refine gA<|Zk rfl<|Zb<|YH 23 3<|Za<|gm rfl rfl<|gas rfl rfl<|gas rfl rfl<|gA<|Zu<|Zh<|Y5 (.inl rfl) Tryz.results66 rfl rfl [0] (by decide) ?_
  unfold Wn
  rw [if_pos h16]
  exact ⟨none,0,rfl,rfl⟩
 obtain ⟨r,rfl,rfl,hr⟩:=Ze7 (Classical.not_not.1 h16)
 rw [YA] at h1 h2
 rw [Wl] at h1 h2
 simp only [YA]
 refine gA<|Zl rfl<|Zv<|Ze<|Zb<|Za<|gas rfl rfl<|gA<|Zb<|Zb<|Za<|gas rfl rfl<|gA<|ZB<|YH 23 3<|ZZ (ι:=Nat × Option Nat × Nat × List Pis) [(0,_),(3,_)] [_] (fun q=>q.1≤t.L.length∧q.2.2.2=(((prs (t.L.take q.1)).filter fun q=>Zfg s r q.1 q.2).map (·.1))) (fun q Fr0=>((7,.slice (rowA q.2.1) q.2.2.2.length q.2.2.1)::(8,natV q.1)::Fr0)) (fun q Fr0=>(.row 23 3 q.2.1 q.2.2.2.length q.2.2.1 (q.2.2.2.flatMap Pis.cells)::Fr0)) (fun q=>t.L.length - q.1) (0,none,0,[]) (⟨Nat.zero_le _,rfl⟩) ⟨rfl,rfl,rfl,rfl,trivial⟩ ⟨[0,1],by decide,rfl⟩ ?_
 rintro ⟨k,ro,co,out⟩ ⟨hk,hf⟩
 simp only at hk hf ⊢
 refine Zb<|Zb<|Za<|gm rfl rfl<|gm rfl rfl<|gnc rfl rfl<|gr rfl (Zd rfl (Y6 _))<|gr rfl (Zi Tryz.underlying74 rfl rfl (Yj hp (by simp) (j:=6) rfl)) ?_
 refine gr rfl (ZA Tryz.underlying74 rfl)<|gr rfl (ZX rfl rfl) (Zw (fun h24=>?_) (fun h24=>?_))
 ·obtain ⟨e1,hx⟩:=get_some (show k<t.L.length by omega)
  have hem:=List.mem_of_getElem? hx
  have hlen:out.length≤k:=by rw [hf,List.length_map]; refine Nat.le_trans (List.length_filter_le _ _) ?_; simp [prs]; omega
  refine gA<|Zk rfl<|Zv<|Ze<|Zb<|ZB<|Zb<|ZO [0,1] true 23 rfl<|Zc 0 rfl rfl ⟨[0,1],by decide,rfl⟩ (Zf (Zo rfl)) ?_
  refine Zc 1 rfl rfl ⟨[0,1],by decide,rfl⟩ (Zf (ZN rfl)) ?_
  refine Zc 2 rfl rfl ⟨[0,1],by decide,rfl⟩ (Zf (Zd rfl (VG _))) ?_
  refine Zc 3 rfl rfl ⟨[0,1],by decide,rfl⟩ (Zf (Zr Tryz.underlying45 rfl Xu rfl (by exact Zej (by assumption) (by simp)) rfl)) ?_
  refine Zc 4 rfl rfl ⟨[0,1],by decide,rfl⟩ (Zf (Zo rfl)) ?_
  refine Zc 5 rfl rfl ⟨[0,1],by decide,rfl⟩ (Zf (ZN rfl)) ?_
  refine Zc 6 rfl rfl ⟨[0,1],by decide,rfl⟩ (Zf (Zd rfl (Y6 _))) ?_
  refine Zc 7 rfl rfl ⟨[0,1],by decide,rfl⟩ (Zf (Zi Tryz.underlying74 rfl rfl (Yj hp (by simp) (j:=6) rfl))) ?_
  refine Zc 8 rfl rfl ⟨[0,1],by decide,rfl⟩ (Zf (Zo rfl)) ?_
  refine Zc 9 rfl rfl ⟨[0,1],by decide,rfl⟩ (Zf (Z3 hR.l Tryz.underlying74 Xe rfl rfl (by omega) (by omega))) ?_
  refine Zc 10 rfl rfl ⟨[0,1],by decide,rfl⟩ (Zf (Zd rfl (Vl _))) ?_
  refine Zc 11 rfl rfl ⟨[0,1],by decide,rfl⟩ (Zf (Zr Tryz.underlying23 rfl Yg rfl (Zfi hR.l (YD keC 5 (fun _=>rfl) hx (j:=0) (n:=3) (by decide))) rfl)) ?_
  refine Zc 12 rfl rfl ⟨[0,1],by decide,rfl⟩ (Zf (Zo rfl)) ?_
  refine Zc 13 rfl rfl ⟨[0,1],by decide,rfl⟩ (Zf (ZN rfl)) ?_
  refine Zc 14 rfl rfl ⟨[0,1],by decide,rfl⟩ (Zf (Zd rfl (Y6 _))) ?_
  refine Zc 15 rfl rfl ⟨[0,1],by decide,rfl⟩ (Zf (Zi Tryz.underlying74 rfl rfl (Yj hp (by simp) (j:=6) rfl))) ?_
  refine Zc 16 rfl rfl ⟨[0,1],by decide,rfl⟩ (Zf (Zo rfl)) ?_
  refine Zc 17 rfl rfl ⟨[0,1],by decide,rfl⟩ (Zf (Z3 hR.l Tryz.underlying74 Xe rfl rfl (by omega) (by omega))) ?_
  refine Zc 18 rfl rfl ⟨[0,1],by decide,rfl⟩ (Zf (Zd rfl (Zbr _))) ?_
  refine Zc 19 rfl rfl ⟨[0,1],by decide,rfl⟩ (Zf (Zr Tryz.underlying26 rfl Z5 rfl (Zfi hR.l (YD keC 5 (fun _=>rfl) hx (j:=3) (n:=2) (by decide))) rfl)) ?_
  refine Zc 20 rfl rfl ⟨[0,1],by decide,rfl⟩ (Zf (Zr Tryz.underlying26 rfl Z5 rfl (by exact ZH 1 (off:=0) (k:=2) rfl rfl) rfl)) ?_
  refine Zc 22 rfl rfl ⟨[0,1],by decide,rfl⟩ (Zf (Zr Tryz.underlying26 rfl Z5 rfl (by exact ZH 1 (off:=0) (k:=2) rfl rfl) rfl)) ?_
  refine ZK 21 rfl (.inr ⟨[0,1],by decide,rfl⟩) (ZJ rfl (vf:=[]) (vc:=[]) rfl rfl Tryz.call101 (fun w1 ho=>Zf8 s hle hnd hns hnc w1 (hS.at ho) e1.x e1.r r (ht.rg hem) hr _ _ _ _ _ _ _ _ ((hR.k _ hem).at ho).s ((hR.k _ hem).at ho).c (h1.at ho) (h2.at ho)) ?_)
  rintro _ _ ⟨rA,dA,rC,dC,rfl,rfl⟩
  refine ZK 23 rfl (.inr ⟨[2,3],by decide,rfl⟩) (ZJ rfl (vf:=[]) (vc:=[]) rfl rfl Tryz.call32 (fun w1 ho=>Zeg (Xf s e1.x e1.r r) r _ _ _ _ _ _ _ _ (Nat.le_trans (Vr (Zb6 s e1.x e1.r r) hns) (by decide)) (Nat.le_trans (Vs (Zb6 s e1.x e1.r r) hnc) (by decide)) w1 (ho.rowSl 0 rfl) (ho.rowSl 1 rfl) (h1.at ho) (h2.at ho)) ?_)
  rintro _ _ ⟨rfl,rfl⟩
  refine Z0 (fun hlit=>?_) (fun hlit=>?_)
  ·refine ZP (.inr ⟨[2,3],by decide,rfl⟩) ?_
   refine Ze<|Zk rfl<|Za<|gm rfl rfl<|gm rfl rfl<|gnc rfl rfl<|gr rfl (Zd rfl (Y6 _))<|gr rfl (Zi Tryz.underlying74 rfl rfl (Yj hp (by simp) (j:=6) rfl)) ?_
   refine gm rfl rfl<|gr rfl (Z3 hR.l Tryz.underlying74 Xe rfl rfl (by omega) (by omega)) ?_
   refine gr rfl (Zd rfl (Vl _))<|gr rfl (Zr Tryz.underlying23 rfl Yg rfl (Zfi hR.l (YD keC 5 (fun _=>rfl) hx (j:=0) (n:=3) (by decide))) rfl) ?_
   refine Zt (ZQ (sz:=3) rfl rfl (fun _=>Jb _ _ _) rfl rfl (fun b60=>?_))
   refine Zt (Yb 3 0 Tryz.underlying56 Yg rfl (by decide) rfl rfl rfl rfl rfl (by simp [Value.oneCell']) (by omega) (by omega) (fun _=>(by rfl)) (fun r61 c61=>?_))
   refine gas rfl rfl<|ZM<|ZI<|Ze<|Za<|gm rfl rfl<|gr rfl (by exact ZL (b:=1) rfl rfl (by omega)) ?_
   refine gas rfl rfl<|ZM<|Ze ?_
   rw [show out.length+1=(out++[e1.x]).length by simp,show out.flatMap Pis.cells++[.int .i64 e1.x.lv,.int .i64 e1.x.dv,.int .i64 e1.x.nm]=(out++[e1.x]).flatMap Pis.cells by simp]
   exact ZR ((k+1,r61,c61,out++[e1.x])) ⟨⟨by simp only; omega,by simp only; rw [Zq2 (fun p q=>Zfg s r p q) hx,if_pos (show Zfg s r e1.x e1.r=true from hlit),hf]⟩,by simp only; omega⟩ ⟨rfl,rfl,rfl,rfl,trivial⟩ ⟨[3,4],by decide,rfl⟩
  refine ZP (.inr ⟨[2,3],by decide,rfl⟩) ?_
  refine Ze<|Zl rfl<|Zv<|ZI<|Ze<|Za<|gm rfl rfl<|gr rfl (by exact ZL (b:=1) rfl rfl (by omega)) ?_
  refine gas rfl rfl<|ZM<|Ze ?_
  exact ZR ((k+1,ro,co,out)) ⟨⟨by simp only; omega,by simp only; rw [Zq2 (fun p q=>Zfg s r p q) hx,if_neg (by rw [show Zfg s r e1.x e1.r=false from hlit]; decide),List.append_nil,hf]⟩,by simp only; omega⟩ ⟨rfl,rfl,rfl,rfl,trivial⟩ ⟨[2,3],by decide,rfl⟩
 refine gA<|Zl rfl<|Z1<|Zs<|Zs<|ZE<|Ze<|Zb ?_
 rw [List.take_of_length_le (by omega)] at hf
 subst hf
 refine Za<|gm rfl rfl<|gas rfl rfl<|gas rfl rfl<|gA<|Zu<|Y5 (.inl rfl) Tryz.results66 rfl rfl [0] (by decide) ?_
 unfold Wn
 rw [if_neg h16,VC]
 exact ⟨ro,co,rfl,rfl⟩
namespace Ip
section
variable {s:Org} {room:Nat} {t:RH}
theorem Zsi (h:t.Ok s room) {x:Pis} {to:Int} (hp:Yx t.st.2 x=none) (rl:Option Nat) (cl:Nat):Y4 room to t.st x=(RH.st { t with rl:=rl,cl:=cl,L:=XH t.L (atL x to) },0):=by
 unfold Y4
 rw [hp]
 show ((t.U,forgetR (prs t.L) (atL x to)),(0:Int))=((t.U,prs (XH t.L (atL x to))),0)
 rw [Zda]
theorem Zsj {x:Pis} {to:Int} {r:Rg} (hp:Yx t.st.2 x=some r) (hf:Vt room t.U (atL x to)):Y4 room to t.st x=(t.st,5):=by
 unfold Y4
 rw [hp]
 exact if_pos hf
theorem Zcp {x:Pis} {to:Int} {e:KE} (hp:Yx t.st.2 x=some e.r) (hf:¬ Vt room t.U (atL x to)) (ru rl:Option Nat) (cu cl:Nat) :
    Y4 room to t.st x=(RH.st { t with ru:=ru,cu:=cu,U:=Xc t.U (atL x to),rl:=rl,cl:=cl,L:=W9 t.L ⟨atL x to,e.a1,e.c1,e.a2,e.c2,e.r⟩ },0):=by
  unfold Y4
  rw [hp]
  show (if Vt room t.U (atL x to) then (t.st,(5:Int)) else ((Xc t.U (atL x to),VS (prs t.L) (atL x to) e.r),0))=((Xc t.U (atL x to),prs (W9 t.L _)),0)
  rw [if_neg hf,Zij]
end
end Ip
theorem Zoc (s:Org) (room:Nat) (t:RH) (ht:t.Ok s room) (S:List Nat) (w0:World) (hown:Own w0 S w0 (t.hd s room)) (frm to:Int):Sp Tryz.prog 65 [.pointer (some ⟨t.br,0,none⟩),.int .i64 frm,.int .i64 to] w0 S (fun v L=>v=.int .i64 (XZ s room t.st frm to).2∧RefT s room t (XZ s room t.st frm to).1 L):=by
 have hnd:=ht.p.hnd
 have hal:=Ww frm s.ds.length
 refine ZC Tryz.func65 rfl Tryz.ntmps65 rfl hown ?_
 simp only [ZV]
 refine Zb<|Za<|gas rfl rfl<|gA<|Zb<|Zb<|Za<|gm rfl rfl<|gr rfl (ZX rfl rfl) (Zw (fun h14=>?_) (fun h14=>?_))
 ·refine gm rfl rfl<|Zj rfl rfl rfl<|Zj rfl rfl rfl<|gr rfl (Zq rfl rfl)<|gm rfl rfl<|Zj rfl rfl rfl<|Zj rfl rfl rfl<|gr rfl (Zq rfl rfl)<|gm rfl rfl<|Zj rfl rfl rfl<|Zj rfl rfl rfl<|gr rfl (Zq rfl rfl)<|gA<|Zk rfl<|Zb<|Za<|gas rfl rfl<|gA<|Zu<|Zh<|ZW (.inl rfl) Tryz.results65 rfl ⟨[0,1,2],by decide,rfl⟩ ?_
  unfold XZ
  rw [if_pos (by omega)]
  exact ⟨rfl,RefT.same ht⟩
 refine gm rfl rfl<|Zg rfl rfl<|Zm rfl (Zo rfl)<|Zg rfl rfl (Zm rfl (Yk rfl rfl) (Zw (fun h17=>?_) (fun h17=>?_)))
 ·refine gr rfl (Zn rfl rfl)<|gm rfl rfl<|Zj rfl rfl rfl<|Zj rfl rfl rfl<|gr rfl (Zq rfl rfl)<|gm rfl rfl<|Zj rfl rfl rfl<|Zj rfl rfl rfl<|gr rfl (Zq rfl rfl)<|gA<|Zk rfl<|Zb<|Za<|gas rfl rfl<|gA<|Zu<|Zh<|ZW (.inl rfl) Tryz.results65 rfl ⟨[0,1,2],by decide,rfl⟩ ?_
  unfold XZ
  rw [if_pos (by omega)]
  exact ⟨rfl,RefT.same ht⟩
 refine gr rfl (Zn rfl rfl)<|gm rfl rfl<|Zg rfl rfl<|Zm rfl (Zo rfl)<|Zg rfl rfl (Zm rfl (ZX rfl rfl) (Zw (fun h21=>?_) (fun h21=>?_)))
 ·refine gr rfl (Zn rfl rfl)<|gm rfl rfl<|Zj rfl rfl rfl<|Zj rfl rfl rfl<|gr rfl (Zq rfl rfl)<|gA<|Zk rfl<|Zb<|Za<|gas rfl rfl<|gA<|Zu<|Zh<|ZW (.inl rfl) Tryz.results65 rfl ⟨[0,1,2],by decide,rfl⟩ ?_
  unfold XZ
  rw [if_pos (by omega)]
  exact ⟨rfl,RefT.same ht⟩
 refine gr rfl (Zn rfl rfl)<|gm rfl rfl<|Zg rfl rfl<|Zm rfl (Zo rfl)<|Zg rfl rfl (Zm rfl (Yk rfl rfl) (Zw (fun h25=>?_) (fun h25=>?_)))
 ·refine gr rfl (Zn rfl rfl)<|gA<|Zk rfl<|Zb<|Za<|gas rfl rfl<|gA<|Zu<|Zh<|ZW (.inl rfl) Tryz.results65 rfl ⟨[0,1,2],by decide,rfl⟩ ?_
  unfold XZ
  rw [if_pos (by omega)]
  exact ⟨rfl,RefT.same ht⟩
 refine gr rfl (Zn rfl rfl)<|gA<|Zl rfl<|Zv<|Ze<|Zb<|Za<|gm rfl rfl<|gnc rfl rfl<|gr rfl (Zd rfl (VG _))<|gr rfl (Zr Tryz.underlying45 rfl Xu rfl (by exact ZH 0 (off:=0) (k:=4) rfl rfl) rfl) ?_
 refine gm rfl rfl<|Zt (ZJ rfl (vf:=[]) (vc:=[]) rfl rfl Tryz.call29 (fun w1 ho=>rAll_ok s hnd frm w1) ?_)
 rintro _ _ ⟨ra,ca,rfl,rfl⟩
 refine gas rfl rfl<|gA<|Zb<|Zb<|Za<|gas rfl rfl<|gA<|ZB<|ZZ (ι:=Nat × RH) [(0,_),(1,_),(2,_),(7,_)] [_] (fun q=>q.1≤(YI s.ds.length frm).length∧q.2.br=t.br∧q.2.T=t.T∧q.2.Ok s room∧(frm=to→q.1=0)∧Y2 room to ((YI s.ds.length frm).take q.1) t.st=(q.2.st,0)) (fun q Fr0=>((8,natV q.1)::Fr0)) (fun q Fr0=>(.blk t.br (rfC s room q.2) 76::rfU q.2::rfL q.2::Fr0)) (fun q=>(YI s.ds.length frm).length - q.1) (0,t) (⟨Nat.zero_le _,rfl,rfl,ht,fun _=>rfl,rfl⟩) ⟨rfl,rfl,rfl,rfl,rfl,trivial⟩ ⟨[1,2,3,0],by decide,rfl⟩ ?_
 rintro ⟨k,br1,ru,cu,rl,cl,U,L,T1⟩ ⟨hk,hbr,hT,hok,hk0,hcf⟩
 simp only at hk hbr hT hk0
 subst hbr hT
 replace hok:RH.Ok s room (⟨t.br,ru,cu,rl,cl,U,L,t.T⟩:RH):=hok
 have hll:L.length≤1000:=hok.lenL
 have hul:U.length≤1000:=hok.lenU
 refine Zb<|Zb<|Za<|gm rfl rfl<|gm rfl rfl<|gr rfl (ZA Tryz.underlying56 rfl)<|gr rfl (ZX rfl rfl) (Zw (fun h36=>?_) (fun h36=>?_))
 ·refine gm rfl rfl<|Zg rfl rfl<|Zm rfl (Zo rfl)<|Zg rfl rfl<|Zm rfl (Zo rfl)<|Zg rfl rfl (Zm rfl (Z4 rfl rfl) (Zw (fun h40=>?_) (fun h40=>?_)))
  ·obtain ⟨x,hx⟩:=get_some (show k<(YI s.ds.length frm).length by omega)
   refine gr rfl (Zq rfl rfl)<|gA<|Zk rfl<|Zv<|Ze<|Zb<|ZB<|Zb<|Za<|gm rfl rfl<|gm rfl rfl<|gr rfl (by exact YT 3 rfl Tryz.underlying56 Yg rfl rfl (by omega) (by omega)) ?_
   refine gr rfl (Zr Tryz.underlying23 rfl Yg rfl (Zcb 3 rfl (Yf Pis.cells 3 (fun _=>rfl) hx)) rfl) ?_
   refine Zt (ZU Yg rfl rfl (fun b9=>?_))
   refine Zt (Zz 0 Yg rfl rfl rfl rfl rfl rfl (by rfl) ?_)
   refine gA<|Zb<|Za<|gr rfl (Zr Tryz.underlying23 rfl Yg rfl (by exact ZH 0 (off:=0) (k:=3) rfl rfl) rfl) ?_
   refine Zt (ZU Yg rfl rfl (fun b10=>?_))
   refine Zt (Zz 0 Yg rfl rfl rfl rfl rfl rfl (by rfl) ?_)
   refine gA<|Zb<|Za<|gm rfl rfl<|gr rfl (Zd rfl (X9 _))<|Zt (Yc 0 Y7 rfl rfl rfl rfl rfl (by rfl) (by rfl) ?_)
   refine gA<|Zb<|Za<|gm rfl rfl<|gr rfl (Zr Tryz.underlying23 rfl Yg rfl (by exact ZH 1 (off:=0) (k:=3) rfl rfl) rfl) ?_
   refine Zt (ZJ rfl (vf:=[]) (vc:=[]) rfl rfl Tryz.call100 (fun w1 ho=>Zfk s room (⟨t.br,ru,cu,rl,cl,U,L,t.T⟩:RH) w1 (ho.blkCells 2 rfl) (ho.rowSl 4 rfl) hll x) ?_)
   rintro _ _ ⟨rfl,z,rfl,hz⟩
   refine gas rfl rfl<|gA<|Zb<|Zb<|Za<|gm rfl rfl<|gr rfl (ZX rfl rfl) (Zw (fun h55=>?_) (fun h55=>?_))
   ·refine gA<|Zk rfl<|Zb<|Za<|gm rfl rfl<|gr rfl (Zr Tryz.underlying23 rfl Yg rfl (by exact ZH 0 (off:=0) (k:=3) rfl rfl) rfl) ?_
    refine Zt (Yi [2,3,4] [0,1,5] rfl (vf:=[]) (vc:=[]) rfl rfl Tryz.call102 (by decide) rfl (fun w how hc=>Zim s room (⟨t.br,ru,cu,rl,cl,U,L,t.T⟩:RH) _ w hc hll (atL x to)) ?_)
    rintro _ _ ⟨rfl,rl2,cl2,rfl⟩
    refine gA<|Z1<|Zs<|ZE<|Ze<|Za<|gm rfl rfl<|gr rfl (by exact ZL (b:=1) rfl rfl (by omega)) ?_
    refine gas rfl rfl<|ZM<|Ze ?_
    exact ZR ((k+1,{ (⟨t.br,ru,cu,rl,cl,U,L,t.T⟩:RH) with rl:=rl2,cl:=cl2,L:=XH L (atL x to) })) ⟨⟨by simp only; omega,rfl,rfl,Zio hok (atL x to) rl2 cl2,fun h=>absurd h h40,by rw [take_at hx]; exact Jw hcf (Zsi hok (hz.none h55) rl2 cl2)⟩,by simp only; omega⟩ ⟨rfl,rfl,rfl,rfl,rfl,trivial⟩ ⟨[0,1,2,5],by decide,rfl⟩
   obtain ⟨i,e,rfl,hei,hex,hp⟩:=hz.some h55
   have hem:=List.mem_of_getElem? hei
   have hil:i<L.length:=(List.getElem?_eq_some_iff.1 hei).1
   have hre:=hok.rg hem
   have hxm:x∈(YI s.ds.length frm):=List.mem_of_getElem? hx
   have hxt:pnE s.ds.length (atL x to)=0:=pn_at ((Jv (by omega) (by omega)).1 hxm).2 (by omega) (by omega)
   refine gA<|Zl rfl<|Zv<|Ze<|Zb<|Za<|gm rfl rfl<|gr rfl (Zr Tryz.underlying23 rfl Yg rfl (by exact ZH 0 (off:=0) (k:=3) rfl rfl) rfl) ?_
   refine Zt (Yi [2,3,4] [0,1,5] rfl (vf:=[]) (vc:=[]) rfl rfl Tryz.call103 (by decide) rfl (fun w how hc=>Zq4 s room (⟨t.br,ru,cu,rl,cl,U,L,t.T⟩:RH) _ w hc hul hok.p.hroom (atL x to)) ?_)
   rintro _ _ (⟨hfl,rfl,rfl⟩ | ⟨hfl,rfl,ru2,cu2,rfl⟩)
   ·refine gas rfl rfl<|gA<|Zb<|Zb<|Za<|gm rfl rfl<|gr rfl (Z4 rfl rfl) (Zw (fun h63=>?_) (fun h63=>?_))
    ·refine gA<|Zk rfl<|Zb<|Za<|gm rfl rfl<|gas rfl rfl<|gA<|Zu<|Zh<|Zx<|Zh<|Zh<|Zx<|Zh<|ZW (.inl rfl) Tryz.results65 rfl ⟨[0,1,2],by decide,rfl⟩ ?_
     unfold XZ
     rw [if_neg (by omega),if_neg h40,split_at hx,Zpt hcf (Zsj (t:=(⟨t.br,ru,cu,rl,cl,U,L,t.T⟩:RH)) hp hfl) (by decide)]
     exact ⟨rfl,(⟨t.br,ru,cu,rl,cl,U,L,t.T⟩:RH),[],rfl,rfl,rfl,hok,rfl⟩
    exact absurd rfl (fun h:(5:Int)=5=>h63 (by decide))
   refine gas rfl rfl<|gA<|Zb<|Zb<|Za<|gm rfl rfl<|gr rfl (Z4 rfl rfl) (Zw (fun h63=>?_) (fun h63=>?_))
   ·exact absurd rfl h63
   refine gA<|Zl rfl<|Zv<|Ze<|ZO [0,1,2,3,4,5] false 9 rfl<|WC 0 rfl rfl (fun _=>Zo rfl) ?_
   refine WC 2 rfl rfl (fun _=>Zo rfl) ?_
   refine WC 3 rfl rfl (fun _=>ZN rfl) ?_
   refine WC 4 rfl rfl (fun _=>Zd rfl (Y6 _)) ?_
   refine WC 6 rfl rfl (fun _=>Zo rfl) ?_
   refine Zap 1 5 (Gv.bm 11 95) (Gv.bm 11 125) rfl rfl rfl rfl (by kernel_rfl) (by kernel_rfl) (by kernel_rfl) (.inr ⟨[0,1,2,3,4,5],by decide,rfl⟩) ?_ ?_
   ·refine (Zm rfl (Zr Tryz.underlying23 rfl Yg rfl (by exact ZH 3 (off:=0) (k:=3) rfl rfl) rfl) ?_)
    refine ZK 5 rfl (.inr ⟨[0,1,2,3,4,5],by decide,rfl⟩) (Zm rfl (Zi Tryz.underlying74 rfl rfl (by exact Zp 0 rfl rfl)) ?_)
    refine ZK 7 rfl (.inr ⟨[0,1,2,3,4,5],by decide,rfl⟩) (Zm rfl (YT 2 (m:=L.length) (r:=rl) rfl Tryz.underlying74 Xe rfl rfl (by omega) (by omega)) ?_)
    refine Zc 8 rfl rfl ⟨[0,1,2,3,4,5],by decide,rfl⟩ (Zf (Zd rfl (Zbr _))) ?_
    refine ZK 9 rfl (.inr ⟨[0,1,2,3,4,5],by decide,rfl⟩) (Zm rfl (Zr Tryz.underlying26 rfl Z5 rfl (V8 2 rfl (YD keC 5 (fun _=>rfl) hei (j:=3) (n:=2) (by decide))) rfl) ?_)
    refine ZK 10 rfl (.inl (by kernel_rfl)) (Yi [0,1,2] [3,4,5] rfl (vf:=[]) (vc:=[]) rfl rfl Tryz.call104 (by decide) rfl (fun w how hc=>Zak s room { (⟨t.br,ru,cu,rl,cl,U,L,t.T⟩:RH) with ru:=ru2,cu:=cu2,U:=Xc U (atL x to) } _ w hc hll ⟨atL x to,e.a1,e.c1,e.a2,e.c2,e.r⟩) ?_)
    rintro _ _ ⟨rfl,rl2,cl2,rfl⟩
    refine ZP (.inl (by kernel_rfl)) ?_
    refine ZI<|Ze<|Za<|gm rfl rfl<|gr rfl (by exact ZL (b:=1) rfl rfl (by omega)) ?_
    refine gas rfl rfl<|ZM<|Ze ?_
    exact ZR ((k+1,{ (⟨t.br,ru,cu,rl,cl,U,L,t.T⟩:RH) with ru:=ru2,cu:=cu2,U:=Xc U (atL x to),rl:=rl2,cl:=cl2,L:=W9 L ⟨atL x to,e.a1,e.c1,e.a2,e.c2,e.r⟩ })) ⟨⟨by simp only; omega,rfl,rfl,Zb8 hok (X:=[]) (e:=⟨atL x to,e.a1,e.c1,e.a2,e.c2,e.r⟩) hxt hre hfl (hok.k e hem),fun h=>absurd h h40,by rw [take_at hx]; exact Jw hcf (Zcp (t:=(⟨t.br,ru,cu,rl,cl,U,L,t.T⟩:RH)) hp hfl ru2 rl2 cu2 cl2)⟩,by simp only; omega⟩ ⟨rfl,rfl,rfl,rfl,rfl,trivial⟩ ⟨[0,1,2,5],by decide,rfl⟩
   refine (Zm rfl (Zi Tryz.underlying74 rfl rfl (by exact Zp 0 rfl rfl)) ?_)
   refine Zap 1 7 (Gv.bm 11 127) (Gv.bm 11 253) rfl rfl rfl rfl (by kernel_rfl) (by kernel_rfl) (by kernel_rfl) (.inr ⟨[0,1,2,3,4,5],by decide,rfl⟩) ?_ ?_
   ·refine (Zm rfl (Zr Tryz.underlying23 rfl Yg rfl (by exact ZH 3 (off:=0) (k:=3) rfl rfl) rfl) ?_)
    refine ZK 7 rfl (.inr ⟨[0,1,2,3,4,5],by decide,rfl⟩) (Zm rfl (YT 2 (m:=L.length) (r:=rl) rfl Tryz.underlying74 Xe rfl rfl (by omega) (by omega)) ?_)
    refine Zc 8 rfl rfl ⟨[0,1,2,3,4,5],by decide,rfl⟩ (Zf (Zd rfl (Zbr _))) ?_
    refine ZK 9 rfl (.inr ⟨[0,1,2,3,4,5],by decide,rfl⟩) (Zm rfl (Zr Tryz.underlying26 rfl Z5 rfl (V8 2 rfl (YD keC 5 (fun _=>rfl) hei (j:=3) (n:=2) (by decide))) rfl) ?_)
    refine ZK 10 rfl (.inl (by kernel_rfl)) (Yi [0,1,2] [3,4,5] rfl (vf:=[]) (vc:=[]) rfl rfl Tryz.call104 (by decide) rfl (fun w how hc=>Zak s room { (⟨t.br,ru,cu,rl,cl,U,L,t.T⟩:RH) with ru:=ru2,cu:=cu2,U:=Xc U (atL x to) } _ w hc hll ⟨atL x to,e.a1,e.c1,e.a2,e.c2,e.r⟩) ?_)
    rintro _ _ ⟨rfl,rl2,cl2,rfl⟩
    refine ZP (.inl (by kernel_rfl)) ?_
    refine ZI<|Ze<|Za<|gm rfl rfl<|gr rfl (by exact ZL (b:=1) rfl rfl (by omega)) ?_
    refine gas rfl rfl<|ZM<|Ze ?_
    exact ZR ((k+1,{ (⟨t.br,ru,cu,rl,cl,U,L,t.T⟩:RH) with ru:=ru2,cu:=cu2,U:=Xc U (atL x to),rl:=rl2,cl:=cl2,L:=W9 L ⟨atL x to,e.a1,e.c1,e.a2,e.c2,e.r⟩ })) ⟨⟨by simp only; omega,rfl,rfl,Zb8 hok (X:=[]) (e:=⟨atL x to,e.a1,e.c1,e.a2,e.c2,e.r⟩) hxt hre hfl (hok.k e hem),fun h=>absurd h h40,by rw [take_at hx]; exact Jw hcf (Zcp (t:=(⟨t.br,ru,cu,rl,cl,U,L,t.T⟩:RH)) hp hfl ru2 rl2 cu2 cl2)⟩,by simp only; omega⟩ ⟨rfl,rfl,rfl,rfl,rfl,trivial⟩ ⟨[0,1,2,5],by decide,rfl⟩
   refine (Zm rfl (YT 2 (m:=L.length) (r:=rl) rfl Tryz.underlying74 Xe rfl rfl (by omega) (by omega)) ?_)
   refine Zc 8 rfl rfl ⟨[0,1,2,3,4,5],by decide,rfl⟩ (Zf (Zd rfl (Zbr _))) ?_
   refine Zap 1 9 (Gv.bm 11 511) (Gv.bm 11 1021) rfl rfl rfl rfl (by kernel_rfl) (by kernel_rfl) (by kernel_rfl) (.inr ⟨[0,1,2,3,4,5],by decide,rfl⟩) ?_ ?_
   ·refine (Zm rfl (Zr Tryz.underlying23 rfl Yg rfl (by exact ZH 3 (off:=0) (k:=3) rfl rfl) rfl) ?_)
    refine ZK 9 rfl (.inr ⟨[0,1,2,3,4,5],by decide,rfl⟩) (Zm rfl (Zr Tryz.underlying26 rfl Z5 rfl (V8 2 rfl (YD keC 5 (fun _=>rfl) hei (j:=3) (n:=2) (by decide))) rfl) ?_)
    refine ZK 10 rfl (.inl (by kernel_rfl)) (Yi [0,1,2] [3,4,5] rfl (vf:=[]) (vc:=[]) rfl rfl Tryz.call104 (by decide) rfl (fun w how hc=>Zak s room { (⟨t.br,ru,cu,rl,cl,U,L,t.T⟩:RH) with ru:=ru2,cu:=cu2,U:=Xc U (atL x to) } _ w hc hll ⟨atL x to,e.a1,e.c1,e.a2,e.c2,e.r⟩) ?_)
    rintro _ _ ⟨rfl,rl2,cl2,rfl⟩
    refine ZP (.inl (by kernel_rfl)) ?_
    refine ZI<|Ze<|Za<|gm rfl rfl<|gr rfl (by exact ZL (b:=1) rfl rfl (by omega)) ?_
    refine gas rfl rfl<|ZM<|Ze ?_
    exact ZR ((k+1,{ (⟨t.br,ru,cu,rl,cl,U,L,t.T⟩:RH) with ru:=ru2,cu:=cu2,U:=Xc U (atL x to),rl:=rl2,cl:=cl2,L:=W9 L ⟨atL x to,e.a1,e.c1,e.a2,e.c2,e.r⟩ })) ⟨⟨by simp only; omega,rfl,rfl,Zb8 hok (X:=[]) (e:=⟨atL x to,e.a1,e.c1,e.a2,e.c2,e.r⟩) hxt hre hfl (hok.k e hem),fun h=>absurd h h40,by rw [take_at hx]; exact Jw hcf (Zcp (t:=(⟨t.br,ru,cu,rl,cl,U,L,t.T⟩:RH)) hp hfl ru2 rl2 cu2 cl2)⟩,by simp only; omega⟩ ⟨rfl,rfl,rfl,rfl,rfl,trivial⟩ ⟨[0,1,2,5],by decide,rfl⟩
   refine (Zm rfl (Zr Tryz.underlying26 rfl Z5 rfl (V8 2 rfl (YD keC 5 (fun _=>rfl) hei (j:=3) (n:=2) (by decide))) rfl) ?_)
   refine ZK 1 rfl (.inl (by kernel_rfl)) (Zm rfl (Zr Tryz.underlying23 rfl Yg rfl (by exact ZH 3 (off:=0) (k:=3) rfl rfl) rfl) ?_)
   refine ZK 10 rfl (.inl (by kernel_rfl)) (Yi [0,1,2] [3,4,5] rfl (vf:=[]) (vc:=[]) rfl rfl Tryz.call104 (by decide) rfl (fun w how hc=>Zak s room { (⟨t.br,ru,cu,rl,cl,U,L,t.T⟩:RH) with ru:=ru2,cu:=cu2,U:=Xc U (atL x to) } _ w hc hll ⟨atL x to,e.a1,e.c1,e.a2,e.c2,e.r⟩) ?_)
   rintro _ _ ⟨rfl,rl2,cl2,rfl⟩
   refine ZP (.inl (by kernel_rfl)) ?_
   refine ZI<|Ze<|Za<|gm rfl rfl<|gr rfl (by exact ZL (b:=1) rfl rfl (by omega)) ?_
   refine gas rfl rfl<|ZM<|Ze ?_
   exact ZR ((k+1,{ (⟨t.br,ru,cu,rl,cl,U,L,t.T⟩:RH) with ru:=ru2,cu:=cu2,U:=Xc U (atL x to),rl:=rl2,cl:=cl2,L:=W9 L ⟨atL x to,e.a1,e.c1,e.a2,e.c2,e.r⟩ })) ⟨⟨by simp only; omega,rfl,rfl,Zb8 hok (X:=[]) (e:=⟨atL x to,e.a1,e.c1,e.a2,e.c2,e.r⟩) hxt hre hfl (hok.k e hem),fun h=>absurd h h40,by rw [take_at hx]; exact Jw hcf (Zcp (t:=(⟨t.br,ru,cu,rl,cl,U,L,t.T⟩:RH)) hp hfl ru2 rl2 cu2 cl2)⟩,by simp only; omega⟩ ⟨rfl,rfl,rfl,rfl,rfl,trivial⟩ ⟨[0,1,2,5],by decide,rfl⟩
  refine gr rfl (Zq rfl rfl)<|gA<|Zl rfl<|Z1<|Zs<|Zs<|ZE<|Ze<|Zb<|Za<|gas rfl rfl<|gA<|Zu<|ZW (.inl rfl) Tryz.results65 rfl ⟨[0,1,2],by decide,rfl⟩ ?_
  have hft:frm=to:=Classical.not_not.1 h40
  obtain rfl:k=0:=hk0 hft
  unfold XZ
  rw [if_neg (by omega),if_pos hft]
  exact ⟨rfl,(⟨t.br,ru,cu,rl,cl,U,L,t.T⟩:RH),[],rfl,rfl,rfl,hok,(Prod.mk.inj hcf).1.symm⟩
 refine gm rfl rfl<|Zj rfl rfl rfl<|Zj rfl rfl rfl<|Zj rfl rfl rfl<|gr rfl (Zn rfl rfl)<|gA<|Zl rfl<|Z1<|Zs<|Zs<|ZE<|Ze<|Zb<|Za<|gas rfl rfl<|gA<|Zu<|ZW (.inl rfl) Tryz.results65 rfl ⟨[0,1,2],by decide,rfl⟩ ?_
 rw [List.take_of_length_le (by omega)] at hcf
 unfold XZ
 rw [if_neg (by omega)]
 by_cases hft:frm=to
 ·obtain rfl:k=0:=hk0 hft
  rw [List.eq_nil_of_length_eq_zero (show (YI s.ds.length frm).length=0 by omega)] at hcf
  rw [if_pos hft]
  exact ⟨rfl,(⟨t.br,ru,cu,rl,cl,U,L,t.T⟩:RH),[],rfl,rfl,rfl,hok,(Prod.mk.inj hcf).1.symm⟩
 ·rw [if_neg hft,hcf]
  exact ⟨rfl,(⟨t.br,ru,cu,rl,cl,U,L,t.T⟩:RH),[],rfl,rfl,rfl,hok,rfl⟩
namespace Ip
section
variable {dm:List Deferred} {P:Program} {n:Nat} {e:Env} {w0:World} {S:List Nat} {l:List HL} {dst:Option Tmp} {ty:TypeId} {pos:String} {aft:Array Edge} {gd:Option (Nat × Bool)} {t ty':TypeId} {x y:Operand}
theorem Zf9 {E:TypeId} {a:Option Addr} (hgt:P.eqGuardType P.depth t=false) (hu:P.underlying t=some (.pointer E)) (hx:e.ev x=some (.pointer a)) (hy:e.ev y=some (.pointer none)):Rd P dm n e w0 S l ⟨dst,.binOp .neq t x y ty',ty,pos,aft,gd⟩ (.bool (!a.isNone)) :=
  fun ac w hs ho=>by
    have h:=Zcs (P:=P) 9999 hu a w
    have h2:(Op.equal t (.pointer a) (.pointer none)).run P w=.ok a.isNone w:=h
    simp [execOp,hs.ev hx,hs.ev hy,eqGuard,binOp,hgt,h2]
end
end Ip
open Ip
namespace Ip
section
variable {d r p1 p2 p3 p4 tc c:Nat} {ta:Option Nat}
end
end Ip
open Ip
namespace Ip
theorem Zkk (q:SS) (V:Ym) (n:Nat) (s:Org) (t:RS) (hst:PSt s q V n t.1 t.2) (S:List Nat) (w0:World) (hown:Own w0 S w0 q.hl) (hn:n+100<1000000) (bp:Nat) (hP:PsIn s bp q.bs w0 S) (x:Pis) (ss cs:List Int) (a1 a2:Option Addr) (c1 c2:Nat) (hl1:ss.length≤140737488355328) (hl2:cs.length≤140737488355328) (h1:OldSl w0 S a1 ss.length 1 (ss.map Xy)) (h2:OldSl w0 S a2 cs.length 1 (cs.map Xy)) (p:Rg) (e:Int) (he:Yp s t x ss cs=(p,e)):Sp Tryz.prog 16 [.pointer (some ⟨bp,0,none⟩),Pis.val x,.agg #[.slice a1 ss.length c1,.slice a2 cs.length c2]] w0 S (fun v L=>∃ (r:Option Nat) (d:Nat) (r2:Option Nat) (d2:Nat),v=.tuple #[.agg #[.slice (rowA r) p.1.length d,.slice (rowA r2) p.2.length d2],.int .i64 e]∧L=.row 3 1 r p.1.length d (p.1.map natV) :: .row 3 1 r2 p.2.length d2 (p.2.map natV)::q.hl):=by
 refine (Zj8 q V n (.inl hst.ok) S w0 hown (by omega) s bp hP x (fun hx r hk=>hst.rg hx hk) ss cs a1 a2 c1 c2 hl1 hl2 h1 h2).mono ?_
 rintro v L ⟨e9,p9,r,d,r2,d2,rfl,rfl,hpi⟩
 obtain ⟨rfl,rfl⟩:=Zii (t:=t) hst hpi
 rw [he]
 exact ⟨r,d,r2,d2,rfl,rfl⟩
theorem LitG_ok (q:SS) (V:Ym) (n:Nat) (s:Org) (t:RS) (hst:PSt s q V n t.1 t.2) (S:List Nat) (w0:World) (hown:Own w0 S w0 q.hl) (hn:n+100<1000000) (bp:Nat) (hP:PsIn s bp q.bs w0 S) (ss cs:List Int) (a1 a2:Option Addr) (c1 c2:Nat) (hl1:ss.length≤140737488355328) (hl2:cs.length≤140737488355328) (h1:OldSl w0 S a1 ss.length 1 (ss.map Xy)) (h2:OldSl w0 S a2 cs.length 1 (cs.map Xy)) (l:List Pis) (e:Int) (he:Wn s t ss cs=(l,e)):Sp Tryz.prog 18 [.pointer (some ⟨bp,0,none⟩),.agg #[.slice a1 ss.length c1,.slice a2 cs.length c2]] w0 S (fun v L=>∃ (r:Option Nat) (d:Nat),v=.tuple #[.slice (rowA r) l.length d,.int .i64 e]∧L=.row 23 3 r l.length d (l.flatMap Pis.cells)::q.hl):=by
 refine (Lit_okP q V n s t (.inl hst) S w0 hown hn bp hP ss cs a1 a2 c1 c2 hl1 hl2 h1 h2).mono ?_
 rintro v L ⟨e9,l9,r,d,rfl,rfl,hli⟩
 obtain ⟨rfl,rfl⟩:=lit_conv (t:=t) hst hli
 rw [he]
 exact ⟨r,d,rfl,rfl⟩
end Ip
open Ip
namespace Ip
end Ip
namespace Ip
theorem OrgIn.atT {s:Org} {w0 w:World} {S:List Nat} {A T:List HL} (h:OrgIn s w0 S) (ho:Own w0 S w (A++T)):OrgIn s w (T.filterMap HL.block) :=
  ⟨h.d.atT ho (by decide),h.r.atT ho (by decide),h.t.atT ho (by decide),h.c.atT ho (by decide),fun x hx=>(h.p x hx).atT ho (by decide)⟩
theorem OrgIn.atIn {s:Org} {w0 w:World} {S:List Nat} {l l':List HL} (h:OrgIn s w0 S) (ho:Own w0 S w l) (hl:∀ x∈l',x∈l):OrgIn s w (l'.filterMap HL.block) :=
  ⟨h.d.atIn ho (by decide) hl,h.r.atIn ho (by decide) hl,h.t.atIn ho (by decide) hl,h.c.atIn ho (by decide) hl,fun x hx=>(h.p x hx).atIn ho (by decide) hl⟩
theorem Zfl (s:Org) (c:Cl):Wx (clS s c)=Wx s:=rfl
theorem Zb9 (s:Org) (c:Cl):Wi (clS s c)=Wi s:=rfl
theorem Zip (s:Org) (c:Cl):XZ (clS s c)=XZ s:=rfl
def PlayR (s:Org) (room:Nat) (t:RH) (q:SS) (n:Nat) (c:Cl) (v:Value) (L:List HL):Prop :=
  (v=.bool true∧∃ (t2:RH) (X:List HL) (q2:SS) (V2:Ym),L=t2.hd s room++(q2.hl++X)∧t2.br=t.br∧t2.T=X++t.T∧t2.Ok s room∧PSt (clS s c) q2 V2 (n+100) t2.st.1 t2.st.2∧q.Like q2) ∨
  (q.f.left≠-1∧(∃ b,v=.bool b)∧∃ (t2:RH) (X:List HL) (q2:SS) (V1 V2:Ym) (ta tb:RS),L=t2.hd s room++(q2.hl++X)∧t2.br=t.br∧t2.T=X++t.T∧t2.Ok s room∧q.Like q2∧q2.Torn (n+100) V1 V2∧PR s.ds.length s.ss.length s.cs.length V1 ta.1 ta.2∧PR s.ds.length s.ss.length s.cs.length V2 tb.1 tb.2∧Mid s.ds.length t.st.2 t2.st.2 ta.2∧Mid s.ds.length t.st.2 t2.st.2 tb.2∧ta.1.length+1≤room∧tb.1.length+1≤room)
section
variable {s:Org} {room:Nat} {t t2:RH} {q q2:SS} {V V2:Ym} {n:Nat} {c:Cl} {X:List HL} {st2:RS} {b:Bool}
theorem PlayR.same (ht:t.Ok s room) (hst:PSt (clS s c) q V n t.st.1 t.st.2) (hb:b=true):PlayR s room t q n c (.bool b) (t.hd s room++q.hl) :=
  .inl ⟨by rw [hb],t,[],q,V,by rw [List.append_nil],rfl,rfl,ht,hst.mono (by omega),SS.Like.refl q⟩
theorem PlayR.done (hbr:t2.br=t.br) (hT:t2.T=X++t.T) (hok:t2.Ok s room) (hlk:q.Like q2) {m:Nat} (hm:m≤n+100) (hst:PSt (clS s c) q2 V2 m st2.1 st2.2) (h9:t2.st=st2) (hb:b=true):PlayR s room t q n c (.bool b) (t2.hd s room++(q2.hl++X)) :=
  .inl ⟨by rw [hb],t2,X,q2,V2,rfl,hbr,hT,hok,by rw [h9]; exact hst.mono hm,hlk⟩
theorem PlayR.broke {V1:Ym} {ta tb:RS} (hbr:t2.br=t.br) (hT:t2.T=X++t.T) (hok:t2.Ok s room) (hlk:q.Like q2) {m:Nat} (hm:m≤n+100) (hl:q.f.left≠-1) (htn:q2.Torn m V1 V2) (h1:PR s.ds.length s.ss.length s.cs.length V1 ta.1 ta.2) (h2:PR s.ds.length s.ss.length s.cs.length V2 tb.1 tb.2) (h9:t2.st=st2) (hma:Mid s.ds.length t.st.2 st2.2 ta.2) (hmb:Mid s.ds.length t.st.2 st2.2 tb.2) (hfa:ta.1.length+1≤room) (hfb:tb.1.length+1≤room):PlayR s room t q n c (.bool b) (t2.hd s room++(q2.hl++X)) :=
  .inr ⟨hl,⟨b,rfl⟩,t2,X,q2,V1,V2,ta,tb,rfl,hbr,hT,hok,hlk,htn.mono hm,h1,h2,by rw [h9]; exact hma,by rw [h9]; exact hmb,hfa,hfb⟩
theorem V9 (hns:s.ss.length≤80) (hnc:s.cs.length≤24) (t:RS) (x:Pis) (ss cs:List Int):(Yp s t x ss cs).1.1.length≤140737488355328∧(Yp s t x ss cs).1.2.length≤140737488355328:=by
 unfold Yp
 split
 ·exact ⟨Nat.zero_le _,Nat.zero_le _⟩
 ·split
  ·exact ⟨Nat.zero_le _,Nat.zero_le _⟩
  ·split
   ·exact ⟨Nat.zero_le _,Nat.zero_le _⟩
   ·exact ⟨Nat.le_trans (Vr (Zb6 s x _ _) hns) (by decide),Nat.le_trans (Vs (Zb6 s x _ _) hnc) (by decide)⟩
theorem Zpu (t:RS) (ss cs:List Int):(Wn s t ss cs).1.length≤t.2.length:=by
 unfold Wn
 split
 ·exact Nat.zero_le _
 ·rw [List.length_map]; exact List.length_filter_le _ _
end
end Ip
open Ip
theorem play_ok (s:Org) (hle:OrgLe s) (hck:(Yo s).2=0) (q:SS) (V:Ym) (n:Nat) (c:Cl) (t:RH) (ht:t.Ok s q.cap) (hst:PSt (clS s c) q V n t.st.1 t.st.2) (S:List Nat) (w0:World) (hown:Own w0 S w0 (t.hd s q.cap++q.hl)) (hn:n+100<1000000) (hS:OrgIn s w0 S) (bp:Nat) (hP:PsIn (clS s c) bp q.bs w0 S) (hk:∀ e∈t.L,KeIn e w0 S) (a:Ac) (hal:AcLe a) (ha:AcIn a w0 S):Sp Tryz.prog 24 [.pointer (some ⟨bp,0,none⟩),.pointer (some ⟨t.br,0,none⟩),Ac.val a] w0 S (PlayR s q.cap t q n c):=by
 have hnd:=ht.p.hnd
 have hns:=ht.p.hns
 have hnc:=ht.p.hnc
 have hll:=ht.lenL
 have hw9:=hal.w
 refine ZC Tryz.func24 rfl Tryz.ntmps24 rfl hown ?_
 simp only [ZV]
 refine Zb<|Za<|Zt (Z6 rfl rfl rfl (fun b5=>?_))
 refine gas rfl rfl<|gA<|Zb<|Zb<|Za<|gr rfl (Zd rfl (Zp5 _))<|gr rfl (Zi Tryz.underlying5 rfl rfl (by exact Zp 0 rfl rfl)) ?_
 refine gr rfl (Zog rfl rfl (by exact Int.natCast_nonneg _) (by omega)) ?_
 refine gA<|ZB<|Zb<|Zb<|Za<|gr rfl (Z8 rfl rfl) (Zw (fun h21=>?_) (fun h21=>?_))
 ·refine gas rfl rfl<|gA<|Zk rfl<|Zv<|Ze<|Zk rfl<|Zb<|Za<|gm rfl rfl<|gr rfl (Zd rfl (JF _))<|gr rfl (Zr Tryz.underlying23 rfl Yg rfl (by exact ZH 0 (off:=1) (k:=3) rfl rfl) rfl) ?_
  refine gr rfl (Zd rfl (VE _))<|gr rfl (Zr Tryz.underlying26 rfl Z5 rfl (by exact ZH 0 (off:=4) (k:=2) rfl rfl) rfl) ?_
  refine Zt (Yn [_,_,_,_] q.hl rfl rfl (vf:=[]) (vc:=[]) rfl rfl Tryz.call16 rfl (fun w how hc=>Zkk q V n (clS s c) t.st hst _ w hc (by omega) bp (hP.out (A:=[_,_,_,_]) how) a.x a.ss a.cs _ _ _ _ hal.s hal.c (ha.s.atT (A:=[_,_,_,_]) how (by decide)) (ha.c.atT (A:=[_,_,_,_]) how (by decide)) (Yp s t.st a.x a.ss a.cs).1 (Yp s t.st a.x a.ss a.cs).2 rfl) ?_)
  rintro _ _ ⟨r29,d29,s29,e29,rfl,rfl⟩
  refine gm rfl rfl<|gr rfl (ZD rfl rfl)<|gr rfl (ZD rfl rfl)<|Zt (ZU Z5 rfl rfl (fun b7=>?_))
  refine Zt (Zz 0 Z5 rfl rfl rfl rfl rfl rfl (by rfl) ?_)
  refine gas rfl rfl<|gA<|Zb<|Za<|gm rfl rfl<|gr rfl (Zd rfl (JF _))<|gr rfl (Zr Tryz.underlying23 rfl Yg rfl (by exact ZH 1 (off:=1) (k:=3) rfl rfl) rfl) ?_
  refine gr rfl (Zd rfl (VE _))<|gr rfl (Zr Tryz.underlying26 rfl Z5 rfl (by exact ZH 1 (off:=4) (k:=2) rfl rfl) rfl) ?_
  refine Zt (ZJ rfl (vf:=[]) (vc:=[]) rfl rfl Tryz.call63 (fun w1 ho=>Zkj s hle hck q.cap t ht w1 (hS.at ho) ⟨ho.blkCells 2 rfl,by simp,ho.rowSl 3 rfl,ho.rowSl 4 rfl,fun e he=>(hk e he).at ho⟩ a.x a.ss a.cs _ _ _ _ hal.s hal.c (ha.s.at ho) (ha.c.at ho)) ?_)
  rintro _ _ ⟨r38,d38,s38,e38,rfl,rfl⟩
  refine gm rfl rfl<|gr rfl (ZD rfl rfl)<|gr rfl (ZD rfl rfl)<|Zt (ZU Z5 rfl rfl (fun b9=>?_))
  refine Zt (Zz 0 Z5 rfl rfl rfl rfl rfl rfl (by rfl) ?_)
  refine gas rfl rfl<|gA<|Zb<|Za<|gr rfl (Zr Tryz.underlying26 rfl Z5 rfl (by exact ZH 3 (off:=0) (k:=2) rfl rfl) rfl) ?_
  refine gr rfl (Zr Tryz.underlying26 rfl Z5 rfl (by exact ZH 0 (off:=0) (k:=2) rfl rfl) rfl) ?_
  refine Zt (ZJ rfl (vf:=[]) (vc:=[]) rfl rfl Tryz.call32 (fun w1 ho=>Zeg (Yp s t.st a.x a.ss a.cs).1 (Yp s t.st a.x a.ss a.cs).1 _ _ _ _ _ _ _ _ (V9 hns hnc _ _ _ _).1 (V9 hns hnc _ _ _ _).2 w1 (ho.rowSl 8 rfl) (ho.rowSl 9 rfl) (ho.rowSl 1 rfl) (ho.rowSl 2 rfl)) ?_)
  rintro _ _ ⟨rfl,rfl⟩
  rw [decide_eq_true (rfl:(Yp s t.st a.x a.ss a.cs).1.1=(Yp s t.st a.x a.ss a.cs).1.1),decide_eq_true (rfl:(Yp s t.st a.x a.ss a.cs).1.2=(Yp s t.st a.x a.ss a.cs).1.2)]
  refine gm rfl rfl<|Zg rfl rfl<|Zm rfl (Zo rfl)<|Zg rfl rfl<|Zm rfl (Zo rfl)<|Zg rfl rfl<|Zm rfl (Z8 rfl rfl)<|gr rfl (Zq rfl rfl)<|gas rfl rfl<|gA<|Zu<|Zx<|Zh<|ZW (.inl rfl) Tryz.results24 rfl (ZS (A:=[_,_,_]) (B:=[_,_,_,_,_,_,_,_,_,_]) (T:=q.hl) [5,6,7] 10 (by decide) (by decide) rfl rfl) ?_
  exact PlayR.same ht hst (decide_eq_true rfl)
 refine gas rfl rfl<|gA<|Zl rfl<|Za<|gr rfl (Z8 rfl rfl) (Zw (fun h22=>?_) (fun h22=>?_))
 ·refine gas rfl rfl<|gA<|Zk rfl<|Zb<|Za<|gm rfl rfl<|gr rfl (Zd rfl (JF _))<|gr rfl (Zr Tryz.underlying23 rfl Yg rfl (by exact ZH 0 (off:=1) (k:=3) rfl rfl) rfl) ?_
  refine gr rfl (Zd rfl (VE _))<|gr rfl (Zr Tryz.underlying26 rfl Z5 rfl (by exact ZH 0 (off:=4) (k:=2) rfl rfl) rfl) ?_
  refine Zt (Yn [_,_,_,_] q.hl rfl rfl (vf:=[]) (vc:=[]) rfl rfl Tryz.call16 rfl (fun w how hc=>Zkk q V n (clS s c) t.st hst _ w hc (by omega) bp (hP.out (A:=[_,_,_,_]) how) a.x a.ss a.cs _ _ _ _ hal.s hal.c (ha.s.atT (A:=[_,_,_,_]) how (by decide)) (ha.c.atT (A:=[_,_,_,_]) how (by decide)) (Yp s t.st a.x a.ss a.cs).1 (Yp s t.st a.x a.ss a.cs).2 rfl) ?_)
  rintro _ _ ⟨r29,d29,s29,e29,rfl,rfl⟩
  refine gm rfl rfl<|gr rfl (ZD rfl rfl)<|gr rfl (ZD rfl rfl)<|Zt (ZU Z5 rfl rfl (fun b7=>?_))
  refine Zt (Zz 0 Z5 rfl rfl rfl rfl rfl rfl (by rfl) ?_)
  refine gas rfl rfl<|gA<|Zb<|Za<|gm rfl rfl<|gr rfl (Zd rfl (JF _))<|gr rfl (Zr Tryz.underlying23 rfl Yg rfl (by exact ZH 1 (off:=1) (k:=3) rfl rfl) rfl) ?_
  refine gr rfl (Zd rfl (VE _))<|gr rfl (Zr Tryz.underlying26 rfl Z5 rfl (by exact ZH 1 (off:=4) (k:=2) rfl rfl) rfl) ?_
  refine Zt (ZJ rfl (vf:=[]) (vc:=[]) rfl rfl Tryz.call63 (fun w1 ho=>Zkj s hle hck q.cap t ht w1 (hS.at ho) ⟨ho.blkCells 2 rfl,by simp,ho.rowSl 3 rfl,ho.rowSl 4 rfl,fun e he=>(hk e he).at ho⟩ a.x a.ss a.cs _ _ _ _ hal.s hal.c (ha.s.at ho) (ha.c.at ho)) ?_)
  rintro _ _ ⟨r38,d38,s38,e38,rfl,rfl⟩
  refine gm rfl rfl<|gr rfl (ZD rfl rfl)<|gr rfl (ZD rfl rfl)<|Zt (ZU Z5 rfl rfl (fun b9=>?_))
  refine Zt (Zz 0 Z5 rfl rfl rfl rfl rfl rfl (by rfl) ?_)
  refine gas rfl rfl<|gA<|Zb<|Za<|gr rfl (Zr Tryz.underlying26 rfl Z5 rfl (by exact ZH 3 (off:=0) (k:=2) rfl rfl) rfl) ?_
  refine gr rfl (Zr Tryz.underlying26 rfl Z5 rfl (by exact ZH 0 (off:=0) (k:=2) rfl rfl) rfl) ?_
  refine Zt (ZJ rfl (vf:=[]) (vc:=[]) rfl rfl Tryz.call32 (fun w1 ho=>Zeg (Yp s t.st a.x a.ss a.cs).1 (Yp s t.st a.x a.ss a.cs).1 _ _ _ _ _ _ _ _ (V9 hns hnc _ _ _ _).1 (V9 hns hnc _ _ _ _).2 w1 (ho.rowSl 8 rfl) (ho.rowSl 9 rfl) (ho.rowSl 1 rfl) (ho.rowSl 2 rfl)) ?_)
  rintro _ _ ⟨rfl,rfl⟩
  rw [decide_eq_true (rfl:(Yp s t.st a.x a.ss a.cs).1.1=(Yp s t.st a.x a.ss a.cs).1.1),decide_eq_true (rfl:(Yp s t.st a.x a.ss a.cs).1.2=(Yp s t.st a.x a.ss a.cs).1.2)]
  refine gm rfl rfl<|Zg rfl rfl<|Zm rfl (Zo rfl)<|Zg rfl rfl<|Zm rfl (Zo rfl)<|Zg rfl rfl<|Zm rfl (Z8 rfl rfl)<|gr rfl (Zq rfl rfl)<|gas rfl rfl<|gA<|Zu<|Zx<|Zh<|ZW (.inl rfl) Tryz.results24 rfl (ZS (A:=[_,_,_]) (B:=[_,_,_,_,_,_,_,_,_,_]) (T:=q.hl) [5,6,7] 10 (by decide) (by decide) rfl rfl) ?_
  exact PlayR.same ht hst (decide_eq_true rfl)
 refine gas rfl rfl<|gA<|Zl rfl<|Zb<|Za<|gr rfl (Z8 rfl rfl) (Zw (fun h50=>?_) (fun h50=>?_))
 ·refine gas rfl rfl<|gA<|Zk rfl<|Zb<|ZO [0] true 9 rfl<|Zc 0 rfl rfl ⟨[0],by decide,rfl⟩ (Zf (Zo rfl)) ?_
  refine Zc 1 rfl rfl ⟨[0],by decide,rfl⟩ (Zf (Zd rfl (JF _))) ?_
  refine Zc 2 rfl rfl ⟨[0],by decide,rfl⟩ (Zf (Zr Tryz.underlying23 rfl Yg rfl (by exact ZH 0 (off:=1) (k:=3) rfl rfl) rfl)) ?_
  refine Zc 4 rfl rfl ⟨[0],by decide,rfl⟩ (Zf (Zo rfl)) ?_
  refine Zc 5 rfl rfl ⟨[0],by decide,rfl⟩ (Zf (Zd rfl (JF _))) ?_
  refine Zc 6 rfl rfl ⟨[0],by decide,rfl⟩ (Zf (Zr Tryz.underlying23 rfl Yg rfl (by exact ZH 0 (off:=1) (k:=3) rfl rfl) rfl)) ?_
  refine ZK 3 rfl (.inr ⟨[0],by decide,rfl⟩) (Yn [_,_,_,_] q.hl rfl rfl (vf:=[]) (vc:=[]) rfl rfl Tryz.call20 rfl (fun w how hc=>(Zse q V n (.inl hst.ok) _ w hc (by omega) (clS s c) bp (hP.out (A:=[_,_,_,_]) how) a.x).mono (fun v L h=>Zpq (t:=t.st) hst h)) ?_)
  rintro _ _ (⟨q2,V2,rfl,hlk,hst2,rfl⟩ | ⟨he0,rfl,hlf,q2,V1,V2,rfl,hlk,htn,hp1,hp2⟩)
  ·rw [Zb9] at hst2
   rw [Zb9]
   refine ZK 7 rfl (.inr ⟨[0],by decide,rfl⟩) (Yr [_,_,_,_] q2.hl [1,2,3] [0] 4 rfl rfl rfl (vf:=[]) (vc:=[]) rfl rfl Tryz.call64 (by decide) (by decide) rfl (fun w how hc=>Zki s q.cap t ht _ w hc a.x) ?_)
   rintro _ _ ⟨rfl,t2,X,rfl,hbr,hT,hok,hst9⟩
   refine Zcd [_,_,_] X [_] q2.hl<|Zc 8 rfl rfl ⟨[3],by decide,rfl⟩ (Zf (Z8 rfl rfl)) ?_
   refine Zc 9 rfl rfl ⟨[3],by decide,rfl⟩ (Zf (ZY rfl)) ?_
   refine ZP (.inr ⟨[3],by decide,rfl⟩) ?_
   refine Ze<|Zu<|Zx<|Zh<|ZW (.inl rfl) Tryz.results24 rfl (ZS (A:=[_,_,_]) (B:=[_,_,_,_]) (T:=(q2.hl++X)) [0,1,2] 4 (by decide) (by decide) rfl rfl) ?_
   exact PlayR.done hbr hT hok hlk (by omega) hst2 hst9 (decide_eq_true rfl)
  rw [Zb9] at hp2
  refine ZK 7 rfl (.inr ⟨[0],by decide,rfl⟩) (Yr [_,_,_,_] q2.hl [1,2,3] [0] 4 rfl rfl rfl (vf:=[]) (vc:=[]) rfl rfl Tryz.call64 (by decide) (by decide) rfl (fun w how hc=>Zki s q.cap t ht _ w hc a.x) ?_)
  rintro _ _ ⟨rfl,t2,X,rfl,hbr,hT,hok,hst9⟩
  refine Zcd [_,_,_] X [_] q2.hl<|Zc 8 rfl rfl ⟨[3],by decide,rfl⟩ (Zf (Z8 rfl rfl)) ?_
  refine Zc 9 rfl rfl ⟨[3],by decide,rfl⟩ (Zf (ZY rfl)) ?_
  refine ZP (.inr ⟨[3],by decide,rfl⟩) ?_
  refine Ze<|Zu<|Zx<|Zh<|ZW (.inl rfl) Tryz.results24 rfl (ZS (A:=[_,_,_]) (B:=[_,_,_,_]) (T:=(q2.hl++X)) [0,1,2] 4 (by decide) (by decide) rfl rfl) ?_
  exact PlayR.broke hbr hT hok hlk (by omega) hlf htn hp1 hp2 hst9 (Mid.left _ _ _) (Mid.right _ _ _) ht.p.full (by rw [← hst9]; exact hok.p.full)
 refine gas rfl rfl<|gA<|Zl rfl<|Zb<|Za<|gr rfl (Z8 rfl rfl) (Zw (fun h61=>?_) (fun h61=>?_))
 ·refine gas rfl rfl<|gA<|Zk rfl<|Zb<|ZO [0] true 13 rfl<|Zc 0 rfl rfl ⟨[0],by decide,rfl⟩ (Zf (Zo rfl)) ?_
  refine Zc 1 rfl rfl ⟨[0],by decide,rfl⟩ (Zf (Zd rfl (Zp6 _))) ?_
  refine Zc 2 rfl rfl ⟨[0],by decide,rfl⟩ (Zf (Zi Tryz.underlying3 rfl rfl (by exact Zp 0 rfl rfl))) ?_
  refine Zc 3 rfl rfl ⟨[0],by decide,rfl⟩ (Zf (Zd rfl (Zp7 _))) ?_
  refine Zc 4 rfl rfl ⟨[0],by decide,rfl⟩ (Zf (Zi Tryz.underlying3 rfl rfl (by exact Zp 0 rfl rfl))) ?_
  refine Zc 6 rfl rfl ⟨[0],by decide,rfl⟩ (Zf (Zo rfl)) ?_
  refine Zc 7 rfl rfl ⟨[0],by decide,rfl⟩ (Zf (Zd rfl (Zp6 _))) ?_
  refine Zc 8 rfl rfl ⟨[0],by decide,rfl⟩ (Zf (Zi Tryz.underlying3 rfl rfl (by exact Zp 0 rfl rfl))) ?_
  refine Zc 9 rfl rfl ⟨[0],by decide,rfl⟩ (Zf (Zd rfl (Zp7 _))) ?_
  refine Zc 10 rfl rfl ⟨[0],by decide,rfl⟩ (Zf (Zi Tryz.underlying3 rfl rfl (by exact Zp 0 rfl rfl))) ?_
  refine ZK 5 rfl (.inr ⟨[0],by decide,rfl⟩) (Yn [_,_,_,_] q.hl rfl rfl (vf:=[]) (vc:=[]) rfl rfl Tryz.call21 rfl (fun w how hc=>(Copy_okP q V n (clS s c) t.st (.inl hst) _ w hc (by omega) bp (hP.out (A:=[_,_,_,_]) how) a.frm a.to).mono (fun v L h=>Zsg (t:=t.st) hst h)) ?_)
  rintro _ _ (⟨q2,V2,rfl,hlk,hst2,rfl⟩ | ⟨⟨hc1,hc2,hc3,hc4,hc5⟩,i9,ta,tb,hi9,hca,hcb,rfl,hlf,q2,V1,V2,rfl,hlk,htn,hp1,hp2⟩)
  ·rw [Zip] at hst2
   rw [Zip]
   refine ZK 11 rfl (.inr ⟨[0],by decide,rfl⟩) (Yr [_,_,_,_] q2.hl [1,2,3] [0] 4 rfl rfl rfl (vf:=[]) (vc:=[]) rfl rfl Tryz.call65 (by decide) (by decide) rfl (fun w how hc=>Zoc s q.cap t ht _ w hc a.frm a.to) ?_)
   rintro _ _ ⟨rfl,t2,X,rfl,hbr,hT,hok,hst9⟩
   refine Zcd [_,_,_] X [_] q2.hl<|Zc 12 rfl rfl ⟨[3],by decide,rfl⟩ (Zf (Z8 rfl rfl)) ?_
   refine Zc 13 rfl rfl ⟨[3],by decide,rfl⟩ (Zf (ZY rfl)) ?_
   refine ZP (.inr ⟨[3],by decide,rfl⟩) ?_
   refine Ze<|Zu<|Zx<|Zh<|ZW (.inl rfl) Tryz.results24 rfl (ZS (A:=[_,_,_]) (B:=[_,_,_,_]) (T:=(q2.hl++X)) [0,1,2] 4 (by decide) (by decide) rfl rfl) ?_
   exact PlayR.done hbr hT hok hlk (by omega) hst2 hst9 (decide_eq_true rfl)
  refine ZK 11 rfl (.inr ⟨[0],by decide,rfl⟩) (Yr [_,_,_,_] q2.hl [1,2,3] [0] 4 rfl rfl rfl (vf:=[]) (vc:=[]) rfl rfl Tryz.call65 (by decide) (by decide) rfl (fun w how hc=>Zoc s q.cap t ht _ w hc a.frm a.to) ?_)
  rintro _ _ ⟨rfl,t2,X,rfl,hbr,hT,hok,hst9⟩
  refine Zcd [_,_,_] X [_] q2.hl<|Zc 12 rfl rfl ⟨[3],by decide,rfl⟩ (Zf (Z8 rfl rfl)) ?_
  refine Zc 13 rfl rfl ⟨[3],by decide,rfl⟩ (Zf (ZY rfl)) ?_
  refine ZP (.inr ⟨[3],by decide,rfl⟩) ?_
  refine Ze<|Zu<|Zx<|Zh<|ZW (.inl rfl) Tryz.results24 rfl (ZS (A:=[_,_,_]) (B:=[_,_,_,_]) (T:=(q2.hl++X)) [0,1,2] 4 (by decide) (by decide) rfl rfl) ?_
  exact PlayR.broke hbr hT hok hlk (Nat.le_refl _) hlf htn hp1 hp2 hst9 (Zn9 hc1 hc2 hc5 hc3 hc4 ht.p.srt hca rfl) (Zn9 hc1 hc2 hc5 hc3 hc4 ht.p.srt hcb rfl) (by have h:=Zdc (to:=a.to) ((YI s.ds.length a.frm).take i9) t.st ht.p.full; rw [hca] at h; exact h) (by have h:=Zdc (to:=a.to) ((YI s.ds.length a.frm).take (i9+1)) t.st ht.p.full; rw [hcb] at h; exact h)
 refine gas rfl rfl<|gA<|Zl rfl<|Zb<|Za<|gr rfl (Z8 rfl rfl) (Zw (fun h76=>?_) (fun h76=>?_))
 ·refine gas rfl rfl<|gA<|Zk rfl<|Zb<|Za<|gm rfl rfl<|Zt (Yn [_,_,_,_] q.hl rfl rfl (vf:=[]) (vc:=[]) rfl rfl Tryz.call17 rfl (fun w how hc=>List_okP q V n (clS s c) t.st (.inl hst) _ w hc (by omega) bp (hP.out (A:=[_,_,_,_]) how)) ?_)
  rintro _ _ ⟨rL1,cL1,rfl,rfl⟩
  rw [if_pos hst.ok.zero,hst.ok.zero]
  rw [show t.st.2.map (·.1)=t.L.map KE.x from prs_map t.L]
  refine gm rfl rfl<|gr rfl (ZD rfl rfl)<|gr rfl (ZD rfl rfl)<|gas rfl rfl<|gas rfl rfl<|gA<|Zb<|Za<|gm rfl rfl<|gr rfl (Zd rfl (VE _))<|gr rfl (Zr Tryz.underlying26 rfl Z5 rfl (by exact ZH 0 (off:=4) (k:=2) rfl rfl) rfl) ?_
  refine Zt (Yn [_,_,_,_,_] q.hl rfl rfl (vf:=[]) (vc:=[]) rfl rfl Tryz.call18 rfl (fun w how hc=>LitG_ok q V n (clS s c) t.st hst _ w hc (by omega) bp (hP.out (A:=[_,_,_,_,_]) how) a.ss a.cs _ _ _ _ hal.s hal.c (ha.s.atT (A:=[_,_,_,_,_]) how (by decide)) (ha.c.atT (A:=[_,_,_,_,_]) how (by decide)) (Wn s t.st a.ss a.cs).1 (Wn s t.st a.ss a.cs).2 rfl) ?_)
  rintro _ _ ⟨rL2,dL2,rfl,rfl⟩
  refine gm rfl rfl<|gr rfl (ZD rfl rfl)<|gr rfl (ZD rfl rfl)<|gas rfl rfl<|gas rfl rfl<|gA<|Zb<|Za<|gm rfl rfl<|gr rfl (Zd rfl (VE _))<|gr rfl (Zr Tryz.underlying26 rfl Z5 rfl (by exact ZH 0 (off:=4) (k:=2) rfl rfl) rfl) ?_
  refine Zt (ZJ rfl (vf:=[]) (vc:=[]) rfl rfl Tryz.call66 (fun w1 ho=>rLit_ok s hle hck q.cap t ht w1 (hS.at ho) ⟨ho.blkCells 1 rfl,by simp,ho.rowSl 2 rfl,ho.rowSl 3 rfl,fun e he=>(hk e he).at ho⟩ a.ss a.cs _ _ _ _ hal.s hal.c (ha.s.at ho) (ha.c.at ho)) ?_)
  rintro _ _ ⟨rL3,dL3,rfl,rfl⟩
  refine gm rfl rfl<|gr rfl (ZD rfl rfl)<|gr rfl (ZD rfl rfl)<|gas rfl rfl<|gas rfl rfl<|gA<|Zb<|Za<|gm rfl rfl<|gm rfl rfl<|Zt (ZJ rfl (vf:=[]) (vc:=[]) rfl rfl Tryz.call67 (fun w1 ho=>rList_ok s q.cap t ht w1 ⟨ho.blkCells 2 rfl,by simp,ho.rowSl 3 rfl,ho.rowSl 4 rfl,fun e he=>(hk e he).at ho⟩) ?_)
  rintro _ _ ⟨rL4,dL4,rfl,rfl⟩
  refine Zt (ZJ rfl (vf:=[]) (vc:=[]) rfl rfl Tryz.call33 (fun w1 ho=>Zq0 (t.L.map KE.x) (t.L.map KE.x) _ _ _ _ (by rw [List.length_map]; omega) w1 (ho.rowSl 6 rfl) (ho.rowSl 0 rfl)) ?_)
  rintro _ _ ⟨rfl,rfl⟩
  rw [decide_eq_true (rfl:t.L.map KE.x=t.L.map KE.x)]
  refine gm rfl rfl<|Zg rfl rfl<|Zm rfl (Zo rfl)<|Zg rfl rfl (Zm rfl (Z8 rfl rfl) (Zw (fun h102=>?_) (fun h102=>?_)))
  ·refine gr rfl (Zq rfl rfl)<|gm rfl rfl<|Zg rfl rfl<|Zm rfl (Zo rfl)<|Zg rfl rfl<|Zm rfl (Zo rfl)<|Zg rfl rfl (ZJ rfl (vf:=[]) (vc:=[]) rfl rfl Tryz.call33 (fun w1 ho=>Zq0 (Wn s t.st a.ss a.cs).1 (Wn s t.st a.ss a.cs).1 _ _ _ _ (Nat.le_trans (Zpu _ _ _) (by show (prs t.L).length≤_; rw [List.length_map]; omega)) w1 (ho.rowSl 7 rfl) (ho.rowSl 1 rfl)) ?_)
   rintro _ _ ⟨rfl,rfl⟩
   rw [decide_eq_true (rfl:(Wn s t.st a.ss a.cs).1=(Wn s t.st a.ss a.cs).1)]
   refine gr rfl (Zq rfl rfl)<|gm rfl rfl<|Zg rfl rfl<|Zm rfl (Zo rfl)<|Zg rfl rfl<|Zm rfl (Zo rfl)<|Zg rfl rfl<|Zm rfl (Z8 rfl rfl)<|gr rfl (Zq rfl rfl)<|gas rfl rfl<|gA<|Zu<|Zx<|Zh<|ZW (.inl rfl) Tryz.results24 rfl (ZS (A:=[_,_,_]) (B:=[_,_,_,_,_,_,_,_]) (T:=q.hl) [3,4,5] 8 (by decide) (by decide) rfl rfl) ?_
   exact PlayR.same ht hst (decide_eq_true rfl)
  exact absurd rfl h102
 refine gas rfl rfl<|gA<|Zl rfl<|Zv<|ZI<|Ze<|Zb<|ZO [0] true 13 rfl<|Zc 0 rfl rfl ⟨[0],by decide,rfl⟩ (Zf (Zo rfl)) ?_
 refine Zc 1 rfl rfl ⟨[0],by decide,rfl⟩ (Zf (Zd rfl (JF _))) ?_
 refine Zc 2 rfl rfl ⟨[0],by decide,rfl⟩ (Zf (Zr Tryz.underlying23 rfl Yg rfl (by exact ZH 0 (off:=1) (k:=3) rfl rfl) rfl)) ?_
 refine Zc 3 rfl rfl ⟨[0],by decide,rfl⟩ (Zf (Zd rfl (VE _))) ?_
 refine Zc 4 rfl rfl ⟨[0],by decide,rfl⟩ (Zf (Zr Tryz.underlying26 rfl Z5 rfl (by exact ZH 0 (off:=4) (k:=2) rfl rfl) rfl)) ?_
 refine Zc 6 rfl rfl ⟨[0],by decide,rfl⟩ (Zf (Zo rfl)) ?_
 refine Zc 7 rfl rfl ⟨[0],by decide,rfl⟩ (Zf (Zd rfl (JF _))) ?_
 refine Zc 8 rfl rfl ⟨[0],by decide,rfl⟩ (Zf (Zr Tryz.underlying23 rfl Yg rfl (by exact ZH 0 (off:=1) (k:=3) rfl rfl) rfl)) ?_
 refine Zc 9 rfl rfl ⟨[0],by decide,rfl⟩ (Zf (Zd rfl (VE _))) ?_
 refine Zc 10 rfl rfl ⟨[0],by decide,rfl⟩ (Zf (Zr Tryz.underlying26 rfl Z5 rfl (by exact ZH 0 (off:=4) (k:=2) rfl rfl) rfl)) ?_
 refine ZK 5 rfl (.inr ⟨[0],by decide,rfl⟩) (Yn [_,_,_,_] q.hl rfl rfl (vf:=[]) (vc:=[]) rfl rfl Tryz.call19 rfl (fun w how hc=>(Zqx q V n (.inl hst.ok) _ w hc (by omega) (clS s c) bp (hP.out (A:=[_,_,_,_]) how) a.x a.ss a.cs _ _ _ _ hal.s hal.c (ha.s.atT (A:=[_,_,_,_]) how (by decide)) (ha.c.atT (A:=[_,_,_,_]) how (by decide))).mono (fun v L h=>Zn1 (t:=t.st) hst h)) ?_)
 rintro _ _ (⟨q2,V2,rfl,hlk,hst2,rfl⟩ | ⟨he0,rfl,hlf,q2,V1,V2,rfl,hlk,htn,hp1,hp2⟩)
 ·rw [Zfl] at hst2
  rw [Zfl]
  refine ZK 11 rfl (.inr ⟨[0],by decide,rfl⟩) (Yr [_,_,_,_] q2.hl [1,2,3] [0] 4 rfl rfl rfl (vf:=[]) (vc:=[]) rfl rfl Tryz.call68 (by decide) (by decide) rfl (fun w how hc=>Zq6 s hle hck q.cap t ht _ w hc (OrgIn.atIn hS how Zco) a.x a.ss a.cs _ _ _ _ hal.s hal.c (ha.s.atIn how (by decide) Zco) (ha.c.atIn how (by decide) Zco)) ?_)
  rintro _ _ ⟨rfl,t2,X,rfl,hbr,hT,hok,hst9⟩
  refine Zcd [_,_,_] X [_] q2.hl<|Zc 12 rfl rfl ⟨[3],by decide,rfl⟩ (Zf (Z8 rfl rfl)) ?_
  refine Zc 13 rfl rfl ⟨[3],by decide,rfl⟩ (Zf (ZY rfl)) ?_
  refine ZP (.inr ⟨[3],by decide,rfl⟩) ?_
  refine Ze<|Zu<|ZW (.inl rfl) Tryz.results24 rfl (ZS (A:=[_,_,_]) (B:=[_,_,_,_]) (T:=(q2.hl++X)) [0,1,2] 4 (by decide) (by decide) rfl rfl) ?_
  exact PlayR.done hbr hT hok hlk (by omega) hst2 hst9 (decide_eq_true rfl)
 rw [Zfl] at hp2
 refine ZK 11 rfl (.inr ⟨[0],by decide,rfl⟩) (Yr [_,_,_,_] q2.hl [1,2,3] [0] 4 rfl rfl rfl (vf:=[]) (vc:=[]) rfl rfl Tryz.call68 (by decide) (by decide) rfl (fun w how hc=>Zq6 s hle hck q.cap t ht _ w hc (OrgIn.atIn hS how Zco) a.x a.ss a.cs _ _ _ _ hal.s hal.c (ha.s.atIn how (by decide) Zco) (ha.c.atIn how (by decide) Zco)) ?_)
 rintro _ _ ⟨rfl,t2,X,rfl,hbr,hT,hok,hst9⟩
 refine Zcd [_,_,_] X [_] q2.hl<|Zc 12 rfl rfl ⟨[3],by decide,rfl⟩ (Zf (Z8 rfl rfl)) ?_
 refine Zc 13 rfl rfl ⟨[3],by decide,rfl⟩ (Zf (ZY rfl)) ?_
 refine ZP (.inr ⟨[3],by decide,rfl⟩) ?_
 refine Ze<|Zu<|ZW (.inl rfl) Tryz.results24 rfl (ZS (A:=[_,_,_]) (B:=[_,_,_,_]) (T:=(q2.hl++X)) [0,1,2] 4 (by decide) (by decide) rfl rfl) ?_
 exact PlayR.broke hbr hT hok hlk (by omega) hlf htn hp1 hp2 hst9 (Mid.left _ _ _) (Mid.right _ _ _) ht.p.full (by rw [← hst9]; exact hok.p.full)
namespace Ip
def PlayT (s:Org) (room:Nat) (t:RH) (q:SS) (n:Nat) (c:Cl) (v:Value) (L:List HL):Prop :=
  (v=.bool true∧∃ (t2:RH) (q2:SS) (V2:Ym),L=t2.hd s room++(q2.hl++t2.T)∧t2.br=t.br∧(∀ x∈t.T,x∈t2.T)∧t2.Ok s room∧PSt (clS s c) q2 V2 (n+100) t2.st.1 t2.st.2∧q.Like q2) ∨
  (q.f.left≠-1∧(∃ b,v=.bool b)∧∃ (t2:RH) (q2:SS) (V1 V2:Ym) (ta tb:RS),L=t2.hd s room++(q2.hl++t2.T)∧t2.br=t.br∧(∀ x∈t.T,x∈t2.T)∧t2.Ok s room∧q.Like q2∧q2.Torn (n+100) V1 V2∧PR s.ds.length s.ss.length s.cs.length V1 ta.1 ta.2∧PR s.ds.length s.ss.length s.cs.length V2 tb.1 tb.2∧Mid s.ds.length t.st.2 t2.st.2 ta.2∧Mid s.ds.length t.st.2 t2.st.2 tb.2∧ta.1.length+1≤room∧tb.1.length+1≤room)
theorem KeM.tail {w0:World} {S:List Nat} {T l1:List HL} {e:KE} (h:KeM T e) (ho:Own w0 S w0 (T++l1)):KeIn e w0 (l1.filterMap HL.block):=by
 have h1:∀ {a:Option Addr} {k:List Nat},SlM T a k→OldSl w0 (l1.filterMap HL.block) a k.length 1 (k.map natV):=fun {a k} ⟨r,c,h2,h3⟩=>by
  subst h2
  obtain ⟨i,hi⟩:=List.getElem?_of_mem h3
  exact ho.rowSlT i hi
 exact ⟨h1 h.1,h1 h.2⟩
theorem playT_ok (s:Org) (hle:OrgLe s) (hck:(Yo s).2=0) (q:SS) (V:Ym) (n:Nat) (c:Cl) (t:RH) (room:Nat) (hroom:q.cap=room) (ht:t.Ok s room) (hst:PSt (clS s c) q V n t.st.1 t.st.2) (S:List Nat) (w0:World) (hown:Own w0 S w0 (t.hd s room++(q.hl++t.T))) (hn:n+100<1000000) (hS:OrgIn s w0 S) (bp:Nat) (hP:PsIn (clS s c) bp q.bs w0 S) (a:Ac) (hal:AcLe a) (ha:AcIn a w0 S):Sp Tryz.prog 24 [.pointer (some ⟨bp,0,none⟩),.pointer (some ⟨t.br,0,none⟩),Ac.val a] w0 S (PlayT s room t q n c):=by
 subst hroom
 have hown2:Own w0 S w0 ((t.hd s q.cap++q.hl)++t.T):=by rw [List.append_assoc]; exact hown
 have hown3:=hown2.sub (Zks (t.hd s q.cap++q.hl) t.T)
 have hin:∀ x∈t.hd s q.cap++q.hl,x∈(t.hd s q.cap++q.hl)++t.T:=fun x hx=>List.mem_append_left _ hx
 refine (Sp.frame hown2 fun ho=>play_ok s hle hck q V n c t ht hst _ w0 ho hn (OrgIn.atIn hS hown2 hin) bp (hP.out hown3) (fun e he=>(ht.k e he).tail hown3) a hal ⟨ha.s.atIn hown2 (by decide) hin,ha.c.atIn hown2 (by decide) hin⟩).mono ?_
 rintro v L ⟨L1,h,rfl⟩
 rcases h with ⟨rfl,t2,X,q2,V2,rfl,hbr,hT,hok,hst2,hlk⟩ | ⟨hl,hb,t2,X,q2,V1,V2,ta,tb,rfl,hbr,hT,hok,hlk,htn,h1,h2,h3,h4,h5,h6⟩
 ·exact .inl ⟨rfl,t2,q2,V2,by rw [hT]; simp only [List.append_assoc],hbr,(fun x hx=>by rw [hT]; exact List.mem_append_right X hx),hok,hst2,hlk⟩
 ·exact .inr ⟨hl,hb,t2,q2,V1,V2,ta,tb,by rw [hT]; simp only [List.append_assoc],hbr,(fun x hx=>by rw [hT]; exact List.mem_append_right X hx),hok,hlk,htn,h1,h2,h3,h4,h5,h6⟩
theorem playD_ok (s:Org) (hle:OrgLe s) (hck:(Yo s).2=0) (q:SS) (V:Ym) (n:Nat) (c:Cl) (t:RH) (room:Nat) (hroom:q.cap=room) (hlf:q.f.left = -1) (ht:t.Ok s room) (hst:PSt (clS s c) q V n t.st.1 t.st.2) (S:List Nat) (w0:World) (hown:Own w0 S w0 (t.hd s room++(q.hl++t.T))) (hn:n+100<1000000) (hS:OrgIn s w0 S) (bp:Nat) (hP:PsIn (clS s c) bp q.bs w0 S) (a:Ac) (hal:AcLe a) (ha:AcIn a w0 S):Sp Tryz.prog 24 [.pointer (some ⟨bp,0,none⟩),.pointer (some ⟨t.br,0,none⟩),Ac.val a] w0 S (fun v L=>v=.bool true∧∃ (t2:RH) (q2:SS) (V2:Ym),L=t2.hd s room++(q2.hl++t2.T)∧t2.br=t.br∧(∀ x∈t.T,x∈t2.T)∧t2.Ok s room∧PSt (clS s c) q2 V2 (n+100) t2.st.1 t2.st.2∧q.Like q2) :=
  (playT_ok s hle hck q V n c t room hroom ht hst S w0 hown hn hS bp hP a hal ha).mono fun v L h=>h.resolve_right fun h=>h.1 hlf
theorem reopen {s:Org} {q:SS} {V:Ym} {n:Nat} {U:List Pis} {L:List (Pis × Rg)} (hck:(Yo s).2=0) (hpr:PR s.ds.length s.ss.length s.cs.length V U L) (hv3:∃ m,V 0=some (m,mkS s)) {v:Value} {T:List HL} (h:OpenR s q V n v T) :
    ∃ (bp:Nat) (c2:Cl) (q2:SS),v=.tuple #[.pointer (some ⟨bp,0,none⟩),.int .i64 0]∧PSt (clS s c2) q2 V (n+1) U L∧q.Like q2∧T=psH s bp q2.bs c2++q2.hl:=by
  obtain ⟨m0,h0⟩:=hv3
  rcases h with ⟨h1,_⟩ | ⟨_,⟨m1,old,hv,hne⟩,_⟩ | ⟨_,bp,c2,q2,V2,rfl,hq2,hlk,hV,rfl⟩
  · exact absurd hck h1
  · rw [h0] at hv
    exact absurd (Prod.mk.inj (Option.some.inj hv)).2.symm hne
  · have hVV:V2=V:=by
      rcases hV with ⟨m,_,h⟩ | ⟨h,_⟩
      · exact h
      · rw [h0] at h; cases h
    subst hVV
    exact ⟨bp,c2,q2,rfl,⟨hq2,hpr⟩,hlk,by rw [hlk.bs]⟩
theorem openT_ok (s:Org) (hle:OrgLe s) (hck:(Yo s).2=0) (q:SS) (V:Ym) (n:Nat) (U:List Pis) (L:List (Pis × Rg)) (hq:q.Ok V n) (hpr:PR s.ds.length s.ss.length s.cs.length V U L) (hv3:∃ m,V 0=some (m,mkS s)) (hlf:q.f.left = -1) (T:List HL) (S:List Nat) (w0:World) (hown:Own w0 S w0 (q.hl++T)) (hS:OrgIn s w0 S) (hn:n<1000000):Sp Tryz.prog 12 [.pointer (some ⟨q.bs,0,none⟩),s.val] w0 S (fun v L9=>∃ (bp:Nat) (c2:Cl) (q2:SS),v=.tuple #[.pointer (some ⟨bp,0,none⟩),.int .i64 0]∧PSt (clS s c2) q2 V (n+1) U L∧q.Like q2∧L9=psH s bp q2.bs c2++(q2.hl++T)):=by
 refine (Sp.frame hown fun ho=>Znv q V n hq _ w0 ho s hle (OrgIn.atIn hS hown fun x hx=>List.mem_append_left _ hx) hn (fun m h=>by obtain ⟨m0,h0⟩:=hv3; rw [h0] at h; have h9:=(Prod.mk.inj (Option.some.inj h)).2; cases h9) (fun h=>by obtain ⟨m0,h0⟩:=hv3; rw [h0] at h; cases h) hlf).mono ?_
 rintro v L9 ⟨L1,h,rfl⟩
 obtain ⟨bp,c2,q2,rfl,h2,hlk,rfl⟩:=reopen hck hpr hv3 h
 exact ⟨bp,c2,q2,rfl,h2,hlk,by rw [List.append_assoc]⟩
theorem Ziq {ic:List Nat} {B T:List HL}:∀ x∈pick ic B++T,x∈B++T:=fun x hx=>by
 rcases List.mem_append.1 hx with h | h
 ·exact List.mem_append_left _ (Zdd h)
 ·exact List.mem_append_right _ h
theorem Zpv {s:Org} {br room:Nat} (hck:(Yo s).2=0) (h1:1≤room) (hr:room≤1000):RH.Ok s room ⟨br,none,0,none,0,[],[],[]⟩:=by
 obtain ⟨hd,hs,hc⟩:=Zgv hck
 exact ⟨RfP.start hd hs hc h1 hr,fun e he=>(List.not_mem_nil he).elim⟩
end Ip
open Ip
theorem Zod (z:Nat) (hz:z<256) (s:Org) (hle:OrgLe s) (la:Option Addr) (lc:Nat) (l:List Ac) (hll:l.length≤140737488355328) (hal:∀ a∈l,AcLe a) (w0:World) (hS:OrgIn s w0 []) (hl:AcsIn la l w0 []):Sp Tryz.prog 7 [.int .u8 (z:Int),s.val,.slice la l.length lc] w0 [] (RV (.bool true)):=by
 refine ZC Tryz.func7 rfl Tryz.ntmps7 rfl (Own.refl _) ?_
 simp only [ZV]
 refine Zb<|Za<|Zt (Z6 rfl rfl rfl (fun b4=>?_))
 refine gas rfl rfl<|gA<|Zb<|Zb<|Za<|gr rfl (Zr Tryz.underlying45 rfl Xu rfl (by exact ZH 0 (off:=0) (k:=4) rfl rfl) rfl) ?_
 refine Zt (ZJ rfl (vf:=[]) (vc:=[]) rfl rfl Tryz.call23 (fun w1 ho=>far10_ok s hle w1 (hS.at ho)) ?_)
 rintro _ _ ⟨fa,rfl,rfl⟩
 refine gm rfl rfl<|Z0 (fun h18=>?_) (fun h18=>?_)
 ·refine Zj rfl rfl rfl<|Zj rfl rfl rfl<|gr rfl (Zq rfl rfl)<|gA<|Zk rfl<|Zb<|Za<|Zt (ZJ rfl (vf:=[]) (vc:=[]) rfl rfl Tryz.call10 (fun w1 ho=>Zai w1) ?_)
  rintro _ _ ⟨rfl,rfl⟩
  refine gas rfl rfl<|gA<|Zu<|Zh<|ZW (.inl rfl) Tryz.results7 rfl (Zcn _) ?_
  exact ⟨rfl,rfl⟩
 refine Zg rfl rfl<|Zm rfl (Zo rfl)<|Zg rfl rfl (ZJ rfl (vf:=[]) (vc:=[]) rfl rfl Tryz.call9 (fun w1 ho=>great_ok la lc l 40 (by decide) hll w1 (hl.at ho)) ?_)
 rintro _ _ ⟨gb,rfl,rfl,hgb⟩
 refine gr rfl (Zn rfl rfl)<|Z0 (fun h20=>?_) (fun h20=>?_)
 ·refine gA<|Zk rfl<|Zb<|Za<|Zt (ZJ rfl (vf:=[]) (vc:=[]) rfl rfl Tryz.call10 (fun w1 ho=>Zai w1) ?_)
  rintro _ _ ⟨rfl,rfl⟩
  refine gas rfl rfl<|gA<|Zu<|Zh<|ZW (.inl rfl) Tryz.results7 rfl (Zcn _) ?_
  exact ⟨rfl,rfl⟩
 have hl40:=hgb h20
 refine gA<|Zl rfl<|Zv<|Ze<|Zb<|Za<|gm rfl rfl<|gr rfl (Xb Tryz.runUnderlying5 Tryz.runUnderlying3 rfl (Vd (by omega))) ?_
 refine gr rfl (by exact Vb (b:=8) rfl rfl (by omega)) ?_
 refine gr rfl (by exact ZL (a:=4) rfl rfl (by omega)) ?_
 refine gas rfl rfl<|gA<|Zb ?_
 have hm8:=Nat.mod_lt z (show 0<8 by decide)
 refine Za<|gm rfl rfl<|Zt (ZJ rfl (vf:=[]) (vc:=[]) rfl rfl Tryz.call11 (fun w1 ho=>Zn2 (4+z % 8) (by omega) (by omega) w1) ?_)
 rintro _ _ ⟨q,rfl,hn,rfl⟩
 refine Jh [] q.hl [_]<|gm rfl rfl<|gr rfl (ZD rfl rfl)<|gr rfl (ZD rfl rfl)<|gas rfl rfl<|gas rfl rfl<|gA<|Zb<|Zb<|Za<|gm rfl rfl<|gr rfl (X6 eg_33 Tryz.underlying33 rfl rfl)<|gA<|Zl rfl<|Zv<|Ze<|Zb<|Za<|gm rfl rfl<|gr rfl (Zr Tryz.underlying45 rfl Xu rfl (by exact ZH 0 (off:=0) (k:=4) rfl rfl) rfl) ?_
 refine Zt (Yn [_] q.hl rfl rfl (vf:=[]) (vc:=[]) rfl rfl Tryz.call12 rfl (fun w how hc=>Zf7 q hn (by omega) _ w hc s hle (OrgIn.out (A:=[_]) hS how)) ?_)
 rintro _ _ (⟨hck,rfl,rfl⟩ | ⟨bp,c9,q2,V2,rfl,hp2,rfl⟩)
 ·refine gm rfl rfl<|gr rfl (ZD rfl rfl)<|gr rfl (ZD rfl rfl)<|gas rfl rfl<|gas rfl rfl<|gA<|Zb<|Za<|gr rfl (Zr Tryz.underlying45 rfl Xu rfl (by exact ZH 0 (off:=0) (k:=4) rfl rfl) rfl) ?_
  refine Zt (ZJ rfl (vf:=[]) (vc:=[]) rfl rfl Tryz.call22 (fun w1 ho=>Ze1 s hle w1 (hS.at ho)) ?_)
  rintro _ _ ⟨rfl,rfl⟩
  refine gm rfl rfl<|gr rfl (ZD rfl rfl)<|gr rfl (ZD rfl rfl)<|Zt (ZU YM rfl rfl (fun b12=>?_))
  refine Zt (Zz 0 YM rfl rfl rfl rfl rfl rfl (by rfl) ?_)
  refine gas rfl rfl<|gA<|Zb<|Zb<|Za<|gm rfl rfl<|gm rfl rfl<|gr rfl (Z4 rfl rfl) (Zw (fun h47=>?_) (fun h47=>?_))
  ·exact absurd rfl h47
  refine gm rfl rfl<|Zg rfl rfl<|Zm rfl (Zo rfl)<|Zg rfl rfl<|Zm rfl (Zf9 eg_36 Tryz.underlying36 rfl rfl)<|Zg rfl rfl<|Zm rfl (Zo rfl)<|Zg rfl rfl (Zm rfl (Z8 rfl rfl) (Zw (fun h52=>?_) (fun h52=>?_)))
  ·exact absurd h52 hck
  refine Zg rfl rfl<|Zm rfl (Zpx Tryz.runUnderlying4 rfl rfl)<|gr rfl (Zn rfl rfl)<|gA<|Zl rfl<|Zv<|Ze<|Zb<|Za<|gr rfl (Zr Tryz.underlying45 rfl Xu rfl (by exact ZH 1 (off:=0) (k:=4) rfl rfl) rfl) ?_
  refine gm rfl rfl<|gr rfl (by exact Jz (b:=2) rfl rfl (by omega) (by omega)) ?_
  refine gr rfl (by exact XX (a:=10) rfl rfl (by omega)) ?_
  refine gr rfl (ZT rfl (fun _=>Zjh _ _ _ _ _ _ _ _ _ _ _ _ _)) ?_
  refine Zt (Z6 rfl rfl rfl (fun b60=>?_))
  refine gas rfl rfl<|gA<|Zb<|Zb<|Za<|gas rfl rfl<|gA<|ZB<|ZZ (ι:=Nat) [(2,_),(4,_),(9,_),(14,_)] (_::_::_::q.hl) (fun k=>True) (fun k Fr0=>((10,.pointer none)::(11,.int .i64 (Yo s).2)::(15,natV k)::Fr0)) (fun k Fr0=>Fr0) (fun k=>0) 0 (trivial) ⟨rfl,rfl,rfl,rfl,rfl,rfl,rfl,trivial⟩ (YL 0 rfl) ?_
  rintro k _
  refine Zb<|Zb<|Za<|gm rfl rfl<|gm rfl rfl<|gr rfl (ZA Tryz.underlying30 rfl)<|gr rfl (ZX rfl rfl) (Zw (fun h64=>?_) (fun h64=>?_))
  ·refine gm rfl rfl<|Zg rfl rfl<|Zm rfl (Zo rfl)<|Zg rfl rfl (Zm rfl (Z8 rfl rfl) (Zw (fun h67=>?_) (fun h67=>?_)))
   ·exact absurd h67 hck
   refine gr rfl (Zq rfl rfl)<|gA<|Zl rfl<|Z1<|Zs<|Zs<|ZE<|Ze<|Zb<|Za<|Zt (ZJ rfl (vf:=[]) (vc:=[]) rfl rfl Tryz.call10 (fun w1 ho=>Zai w1) ?_)
   rintro _ _ ⟨rfl,rfl⟩
   refine gas rfl rfl<|gA<|Zu<|ZW (.inl rfl) Tryz.results7 rfl (Zcn _) ?_
   exact ⟨rfl,rfl⟩
  refine gm rfl rfl<|Zj rfl rfl rfl<|Zj rfl rfl rfl<|gr rfl (Zn rfl rfl)<|gA<|Zl rfl<|Z1<|Zs<|Zs<|ZE<|Ze<|Zb<|Za<|Zt (ZJ rfl (vf:=[]) (vc:=[]) rfl rfl Tryz.call10 (fun w1 ho=>Zai w1) ?_)
  rintro _ _ ⟨rfl,rfl⟩
  refine gas rfl rfl<|gA<|Zu<|ZW (.inl rfl) Tryz.results7 rfl (Zcn _) ?_
  exact ⟨rfl,rfl⟩
 rw [← hp2.lk.bs]
 have hck:=hp2.chk
 have hst2:=hp2.st
 have hlf2:=hp2.left hn
 have hcap2:q2.cap=(10 * (4+z % 8 - 2)):=hp2.cap hn
 obtain ⟨hnd,hns,hnc⟩:=Zgv hck
 refine gm rfl rfl<|gr rfl (ZD rfl rfl)<|gr rfl (ZD rfl rfl)<|gas rfl rfl<|gas rfl rfl<|gA<|Zb<|Za<|gr rfl (Zr Tryz.underlying45 rfl Xu rfl (by exact ZH 0 (off:=0) (k:=4) rfl rfl) rfl) ?_
 refine Zt (ZJ rfl (vf:=[]) (vc:=[]) rfl rfl Tryz.call22 (fun w1 ho=>Ze1 s hle w1 (hS.at ho)) ?_)
 rintro _ _ ⟨rfl,rfl⟩
 refine gm rfl rfl<|gr rfl (ZD rfl rfl)<|gr rfl (ZD rfl rfl)<|Zt (ZU YM rfl rfl (fun b12=>?_))
 refine Zt (Zz 0 YM rfl rfl rfl rfl rfl rfl (by rfl) ?_)
 refine gas rfl rfl<|gA<|Zb<|Zb<|Za<|gm rfl rfl<|gm rfl rfl<|gr rfl (Z4 rfl rfl) (Zw (fun h47=>?_) (fun h47=>?_))
 ·exact absurd hck.symm h47
 refine gm rfl rfl<|Zg rfl rfl<|Zm rfl (Zo rfl)<|Zg rfl rfl<|Zm rfl (Zf9 eg_36 Tryz.underlying36 rfl rfl)<|Zg rfl rfl<|Zm rfl (Zo rfl)<|Zg rfl rfl (Zm rfl (Z8 rfl rfl) (Zw (fun h52=>?_) (fun h52=>?_)))
 ·refine Zg rfl rfl<|Zm rfl (Zpx Tryz.runUnderlying4 rfl rfl)<|gr rfl (Zn rfl rfl)<|gA<|Zl rfl<|Zv<|Ze<|Zb<|Za<|gr rfl (Zr Tryz.underlying45 rfl Xu rfl (by exact ZH 1 (off:=0) (k:=4) rfl rfl) rfl) ?_
  refine gm rfl rfl<|gr rfl (by exact Jz (b:=2) rfl rfl (by omega) (by omega)) ?_
  refine gr rfl (by exact XX (a:=10) rfl rfl (by omega)) ?_
  refine gr rfl (ZT rfl (fun _=>Zjh _ _ _ _ _ _ _ _ _ _ _ _ _)) ?_
  refine Zt (Z6 rfl rfl rfl (fun b60=>?_))
  refine gas rfl rfl<|gA<|Zb<|Zb ?_
  rw [← List.append_nil q2.hl]
  refine Za<|gas rfl rfl<|gA<|ZB<|YH 176 5<|YH 23 3<|ZZ (ι:=Nat × Nat × Cl × SS × Ym × RH) [(2,_),(4,_),(9,_),(14,_)] [_,_] (fun y=>y.1≤l.length∧y.2.2.2.2.2.br=b60∧y.2.2.2.2.2.Ok s (10 * (4+z % 8 - 2))∧PSt (clS s y.2.2.1) y.2.2.2.1 y.2.2.2.2.1 (2+100 * y.1) y.2.2.2.2.2.st.1 y.2.2.2.2.2.st.2∧y.2.2.2.1.bs=q2.bs∧y.2.2.2.1.f.left = -1∧y.2.2.2.1.cap=(10 * (4+z % 8 - 2))) (fun y Fr0=>((10,.pointer (some ⟨y.2.1,0,none⟩))::(11,.int .i64 0)::(15,natV y.1)::Fr0)) (fun y Fr0=>(psB s y.2.1 y.2.2.2.1.bs y.2.2.1 :: .row 109 3 y.2.2.1.rd s.ds.length y.2.2.1.cd (s.ds.flatMap Dv.cells) :: .row 99 5 y.2.2.1.rt s.ss.length y.2.2.1.ct (s.ss.flatMap St.cells) :: .row 113 6 y.2.2.1.rc s.cs.length y.2.2.1.cc (s.cs.flatMap Cp.cells) :: .blk b60 (rfC s (10 * (4+z % 8 - 2)) y.2.2.2.2.2) 76::rfU y.2.2.2.2.2::rfL y.2.2.2.2.2::(Fr0++(y.2.2.2.1.hl++y.2.2.2.2.2.T)))) (fun y=>l.length - y.1) (0,bp,c9,q2,V2,⟨b60,none,0,none,0,[],[],[]⟩) (⟨Nat.zero_le _,rfl,Zpv hck (by omega) (by omega),hst2,rfl,hlf2,hcap2⟩) ⟨rfl,rfl,rfl,rfl,rfl,rfl,rfl,trivial⟩ (ZS (A:=[_,_,_,_,_,_,_,_,_]) (B:=[_,_,_,_,_,_,_,_,_]) (T:=(q2.hl++[])) [5,6,7,8,2,0,1,3,4] 9 (by decide) (by decide) rfl rfl) ?_
  rintro ⟨k,bp,c,q,V,⟨br1,ru,cu,rl,cl,U,L,T1⟩⟩ ⟨hk,hbr,hok,hst,hbs,hlf,hcq⟩
  simp only at hk hbr hst hbs hlf hcq ⊢
  replace hbr:=hbr.symm
  subst hbr
  replace hok:RH.Ok s (10 * (4+z % 8 - 2)) (⟨b60,ru,cu,rl,cl,U,L,T1⟩:RH):=hok
  replace hst:PSt (clS s c) q V (2+100 * k) (RH.st (⟨b60,ru,cu,rl,cl,U,L,T1⟩:RH)).1 (RH.st (⟨b60,ru,cu,rl,cl,U,L,T1⟩:RH)).2:=hst
  rw [← hbs]
  refine Zb<|Zb<|Za<|gm rfl rfl<|gm rfl rfl<|gr rfl (ZA Tryz.underlying30 rfl)<|gr rfl (ZX rfl rfl) (Zw (fun h64=>?_) (fun h64=>?_))
  ·refine gm rfl rfl<|Zg rfl rfl<|Zm rfl (Zo rfl)<|Zg rfl rfl (Zm rfl (Z8 rfl rfl) (Zw (fun h67=>?_) (fun h67=>?_)))
   ·obtain ⟨a,hx⟩:=get_some (show k<l.length by omega)
    have ham:=List.mem_of_getElem? hx
    have haw:=(hal a ham).w
    refine gr rfl (Zq rfl rfl)<|gA<|Zk rfl<|Zv<|Ze<|Zb<|ZB<|Zb<|Zb<|Za<|gm rfl rfl<|gm rfl rfl<|gr rfl (Z3 hl.t Tryz.underlying30 Zme rfl rfl (by omega) (by omega)) ?_
    refine gr rfl (Zd rfl (Zp5 _))<|gr rfl (Zi Tryz.underlying5 rfl rfl (XS hl.t (Zfh hx (j:=0) rfl)))<|gr rfl (Zog rfl rfl (by exact Int.natCast_nonneg _) (by omega)) ?_
    refine gr rfl (Z8 rfl rfl) (Zw (fun h77=>?_) (fun h77=>?_))
    ·refine gA<|Zk rfl<|Zb<|Za<|gm rfl rfl<|gr rfl (Zr Tryz.underlying45 rfl Xu rfl (by exact ZH 8 (off:=0) (k:=4) rfl rfl) rfl) ?_
     refine Zt (Yn [_,_,_,_,_,_,_,_,_] (q.hl++T1) rfl rfl (vf:=[]) (vc:=[]) rfl rfl Tryz.call12 rfl (fun w how hc=>openT_ok s hle hck q V _ _ _ hst.ok hst.pr hst.pr.v3 hlf T1 _ w hc (OrgIn.out (A:=[_,_,_,_,_,_,_,_,_]) hS how) (by omega)) ?_)
     rintro _ _ ⟨bp2,c2,q3,rfl,hst3,hlk2,rfl⟩
     rw [← hlk2.bs]
     refine gm rfl rfl<|gr rfl (ZD rfl rfl)<|gr rfl (ZD rfl rfl)<|gas rfl rfl<|gas rfl rfl<|gA<|Zb<|Zb<|Za<|gm rfl rfl<|gr rfl (Z4 rfl rfl) (Zw (fun h85=>?_) (fun h85=>?_))
     ·exact absurd rfl h85
     refine gA<|Zl rfl<|Zv<|Ze<|Z1<|Zs<|ZE<|Ze<|Za<|gm rfl rfl<|gr rfl (by exact ZL (b:=1) rfl rfl (by omega)) ?_
     refine gas rfl rfl<|ZM<|Ze ?_
     exact ZR ((k+1,bp2,c2,q3,V,(⟨b60,ru,cu,rl,cl,U,L,T1⟩:RH))) ⟨⟨by simp only; omega,rfl,hok,hst3.mono (by simp only; omega),rfl,hlk2.no hlf,hlk2.cap.trans hcq⟩,by simp only; omega⟩ ⟨rfl,rfl,rfl,rfl,rfl,rfl,rfl,trivial⟩ (ZS (A:=[_,_,_,_,_,_,_,_,_]) (B:=[_,_,_,_,_,_,_,_,_,_,_,_,_]) (T:=(q3.hl++T1)) [9,10,11,12,4,5,6,7,8] 13 (by decide) (by decide) rfl rfl)
    refine gA<|Zl rfl<|Zv<|Ze<|Zb<|Za<|gm rfl rfl<|gm rfl rfl<|gm rfl rfl<|gm rfl rfl<|gr rfl (Z3 hl.t Tryz.underlying30 Zme rfl rfl (by omega) (by omega)) ?_
    refine gr rfl (Zr Tryz.underlying28 rfl Zme rfl (Vc hl.t (Yf Ac.cells 8 (fun _=>rfl) hx)) rfl) ?_
    refine Zt (Zcc [_,_,_,_,_,_,_,_,_] (q.hl++T1) [4,5,6] [0,1,2,3,7,8] 9 rfl rfl rfl (vf:=[]) (vc:=[]) rfl rfl Tryz.call24 (by decide) (by decide) rfl (fun w how hc=>playD_ok s hle hck q V _ c (⟨b60,ru,cu,rl,cl,U,L,T1⟩:RH) (10 * (4+z % 8 - 2)) hcq hlf hok hst _ w hc (by omega) (OrgIn.atIn hS how Ziq) bp (Zpl (A:=[_,_,_,_]) (T:=[_,_,_]++(q.hl++T1)) (how.sub (ZS (A:=[_,_,_,_,_,_,_]) (B:=[_,_,_,_,_,_,_,_,_]) (T:=(q.hl++T1)) [0,1,2,3,4,5,6] 9 (by decide) (by decide) rfl rfl)) 0 2 3 rfl rfl rfl hnd hns hnc) a (hal a ham) ⟨(hl.r a ham).s.atIn how (by decide) Ziq,(hl.r a ham).c.atIn how (by decide) Ziq⟩) ?_)
    rintro _ _ ⟨rfl,⟨br2,ru2,cu2,rl2,cl2,U2,L2,T2⟩,q3,V3,rfl,hbr2,hin2,hok2,hst3,hlk2⟩
    refine Jh [_,_,_] (q3.hl++T2) [_,_,_,_,_,_] ?_
    replace hbr2:b60=br2:=hbr2.symm
    subst hbr2
    rw [← hlk2.bs]
    refine gr rfl (rd_not rfl)<|gA<|Zl rfl<|Zv<|ZI<|Ze<|Za<|gm rfl rfl<|gr rfl (by exact ZL (b:=1) rfl rfl (by omega)) ?_
    refine gas rfl rfl<|ZM<|Ze ?_
    exact ZR ((k+1,bp,c,q3,V3,(⟨b60,ru2,cu2,rl2,cl2,U2,L2,T2⟩:RH))) ⟨⟨by simp only; omega,rfl,hok2,hst3.mono (by simp only; omega),rfl,hlk2.no hlf,hlk2.cap.trans hcq⟩,by simp only; omega⟩ ⟨rfl,rfl,rfl,rfl,rfl,rfl,rfl,trivial⟩ (ZS (A:=[_,_,_,_,_,_,_,_,_]) (B:=[_,_,_,_,_,_,_,_,_]) (T:=(q3.hl++T2)) [3,4,5,6,0,1,2,7,8] 9 (by decide) (by decide) rfl rfl)
   exact absurd rfl h67
  refine gm rfl rfl<|Zj rfl rfl rfl<|Zj rfl rfl rfl<|gr rfl (Zn rfl rfl)<|gA<|Zl rfl<|Z1<|Zs<|Zs<|ZE<|Ze<|Zb<|Za<|Zt (ZJ rfl (vf:=[]) (vc:=[]) rfl rfl Tryz.call10 (fun w1 ho=>Zai w1) ?_)
  rintro _ _ ⟨rfl,rfl⟩
  refine gas rfl rfl<|gA<|Zu<|ZW (.inl rfl) Tryz.results7 rfl (Zcn _) ?_
  exact ⟨rfl,rfl⟩
 exact absurd rfl h52
end Go.Proofs.YthcbcdjkfefnlaaGreatDoor
