import Derived.Test.YthcbcdjkfefnlaaGreatDoorW02
import Derived.Test.YthcbcdjkfefnlaaGreatDoorW01
import Derived.Test.YthcbcdjkfefnlaaGreatDoorW00
/- A part of the proof: walks of the program. -/
set_option autoImplicit false
set_option linter.unusedSimpArgs false
set_option linter.unusedVariables false
set_option linter.unnecessarySimpa false
set_option maxRecDepth 100000
set_option maxHeartbeats 8000000
namespace Go.Proofs.YthcbcdjkfefnlaaGreatDoor
open Go.Gv
open Go.RowKit
open Go.Sn
open Sx
theorem far10_ok (s:Org) (hle:OrgLe s) (w0:World) (hS:OrgIn s w0 []):Sp Tryz.prog 23 [s.val] w0 [] (fun v L=>∃ b,v=.bool b∧L=[]):=by
 have h1:=hle.d
 have h2:=hle.r
 have h3:=hle.t
 have h4:=hle.c
 refine ZC Tryz.func23 rfl Tryz.ntmps23 rfl (Own.refl _) ?_
 simp only [ZV]
 refine Zb<|Za<|Zt (Z6 rfl rfl rfl (fun b1=>?_))
 refine gas rfl rfl<|gA<|Zb<|Zb<|Za<|gr rfl (Zd rfl (YS _))<|gr rfl (Zi Tryz.underlying40 rfl rfl (by exact Zp 0 rfl rfl)) ?_
 refine gr rfl (ZA Tryz.underlying40 rfl)<|gr rfl (Yk rfl rfl) (Zw (fun h11=>?_) (fun h11=>?_))
 ·refine gm rfl rfl<|Zj rfl rfl rfl<|Zj rfl rfl rfl<|Zj rfl rfl rfl<|Zj rfl rfl rfl<|gr rfl (Zq rfl rfl)<|gm rfl rfl<|Zj rfl rfl rfl<|Zj rfl rfl rfl<|Zj rfl rfl rfl<|Zj rfl rfl rfl<|gr rfl (Zq rfl rfl)<|gm rfl rfl<|Zj rfl rfl rfl<|Zj rfl rfl rfl<|Zj rfl rfl rfl<|Zj rfl rfl rfl<|gr rfl (Zq rfl rfl)<|gA<|Zk rfl<|Zb<|Za<|gas rfl rfl<|ZM ?_
  refine Ze<|Zu<|Zh<|Zy (.inl rfl) Tryz.results23 rfl [] (by decide) ?_
  exact ⟨_,rfl,rfl⟩
 refine gm rfl rfl<|Zg rfl rfl<|Zm rfl (Zd rfl (WD _))<|Zg rfl rfl (Zm rfl (Zi Tryz.underlying41 rfl rfl (by exact Zp 0 rfl rfl)) ?_)
 refine Zg rfl rfl<|Zm rfl (ZA Tryz.underlying41 rfl)<|Zg rfl rfl (Zm rfl (Yk rfl rfl) (Zw (fun h16=>?_) (fun h16=>?_)))
 ·refine gr rfl (Zn rfl rfl)<|gm rfl rfl<|Zj rfl rfl rfl<|Zj rfl rfl rfl<|Zj rfl rfl rfl<|Zj rfl rfl rfl<|gr rfl (Zq rfl rfl)<|gm rfl rfl<|Zj rfl rfl rfl<|Zj rfl rfl rfl<|Zj rfl rfl rfl<|Zj rfl rfl rfl<|gr rfl (Zq rfl rfl)<|gA<|Zk rfl<|Zb<|Za<|gas rfl rfl<|gA<|Zu<|Zh<|Zy (.inl rfl) Tryz.results23 rfl [] (by decide) ?_
  exact ⟨_,rfl,rfl⟩
 refine gr rfl (Zn rfl rfl)<|gm rfl rfl<|Zg rfl rfl<|Zm rfl (Zd rfl (Xg _))<|Zg rfl rfl (Zm rfl (Zi Tryz.underlying42 rfl rfl (by exact Zp 0 rfl rfl)) ?_)
 refine Zg rfl rfl<|Zm rfl (ZA Tryz.underlying42 rfl)<|Zg rfl rfl (Zm rfl (Yk rfl rfl) (Zw (fun h22=>?_) (fun h22=>?_)))
 ·refine gr rfl (Zn rfl rfl)<|gm rfl rfl<|Zj rfl rfl rfl<|Zj rfl rfl rfl<|Zj rfl rfl rfl<|Zj rfl rfl rfl<|gr rfl (Zq rfl rfl)<|gA<|Zk rfl<|Zb<|Za<|gas rfl rfl<|gA<|Zu<|Zh<|Zy (.inl rfl) Tryz.results23 rfl [] (by decide) ?_
  exact ⟨_,rfl,rfl⟩
 refine gr rfl (Zn rfl rfl)<|gm rfl rfl<|Zg rfl rfl<|Zm rfl (Zd rfl (XM _))<|Zg rfl rfl (Zm rfl (Zi Tryz.underlying43 rfl rfl (by exact Zp 0 rfl rfl)) ?_)
 refine Zg rfl rfl<|Zm rfl (ZA Tryz.underlying43 rfl)<|Zg rfl rfl (Zm rfl (Yk rfl rfl) (Zw (fun h28=>?_) (fun h28=>?_)))
 ·refine gr rfl (Zn rfl rfl)<|gA<|Zk rfl<|Zb<|Za<|gas rfl rfl<|gA<|Zu<|Zh<|Zy (.inl rfl) Tryz.results23 rfl [] (by decide) ?_
  exact ⟨_,rfl,rfl⟩
 refine gr rfl (Zn rfl rfl)<|gA<|Zl rfl<|Zv<|Ze<|Zb<|Za<|gas rfl rfl<|gA<|Zb<|Zb<|Za<|gas rfl rfl<|gA<|ZB<|ZZ (ι:=Nat × Bool) [(1,_)] [_] (fun q=>q.1≤s.ds.length) (fun q Fr0=>((3,.bool q.2)::(4,natV q.1)::Fr0)) (fun q Fr0=>Fr0) (fun q=>s.ds.length - q.1) (0,false) (Nat.zero_le _) ⟨rfl,rfl,rfl,trivial⟩ ⟨[0],by decide,rfl⟩ ?_
 rintro ⟨k,bb⟩ hk
 simp only at hk ⊢
 refine Zb<|Zb<|Za<|gm rfl rfl<|gr rfl (Zd rfl (YS _))<|gr rfl (Zi Tryz.underlying40 rfl rfl (by exact Zp 0 rfl rfl)) ?_
 refine gr rfl (ZA Tryz.underlying40 rfl)<|gr rfl (ZX rfl rfl) (Zw (fun h34=>?_) (fun h34=>?_))
 ·obtain ⟨x,hx⟩:=get_some (show k<s.ds.length by omega)
  refine gA<|Zk rfl<|Zv<|Ze<|Zb<|ZB<|Za<|gm rfl rfl<|gm rfl rfl<|Z0 (fun hb38=>?_) (fun hb38=>?_)
  ·refine Zj rfl rfl rfl<|Zj rfl rfl rfl<|Zj rfl rfl rfl<|Zj rfl rfl rfl<|Zj rfl rfl rfl<|Zj rfl rfl rfl<|Zj rfl rfl rfl<|Zj rfl rfl rfl<|gr rfl (Zq rfl rfl)<|gas rfl rfl<|ZM<|ZI<|Ze<|Za<|gm rfl rfl<|gr rfl (by exact ZL (b:=1) rfl rfl (by omega)) ?_
   refine gas rfl rfl<|ZM<|Ze ?_
   exact ZR ((k+1,_)) ⟨by simp only; omega,by simp only; omega⟩ ⟨rfl,rfl,rfl,trivial⟩ ⟨[0],by decide,rfl⟩
  refine Zg rfl rfl<|Zm rfl (Zd rfl (YS _))<|Zg rfl rfl (Zm rfl (Zi Tryz.underlying40 rfl rfl (by exact Zp 0 rfl rfl)) ?_)
  refine Zg rfl rfl<|Zm rfl (Zo rfl)<|Zg rfl rfl (Zm rfl (Z3 hS.d Tryz.underlying40 X2 rfl rfl (by omega) (by omega)) ?_)
  refine Zg rfl rfl<|Zm rfl (Zd rfl (Zbm _))<|Zg rfl rfl (Zm rfl (Zi Tryz.underlying9 rfl rfl (XS hS.d (Y0 Dv.cells 3 (fun _=>rfl) hx (j:=0) (by decide) rfl))) ?_)
  refine Zg rfl rfl<|Zm rfl (Xp Tryz.underlying9 rfl)<|Zg rfl rfl<|Zm rfl (Yk rfl rfl)<|gr rfl (Zn rfl rfl)<|gas rfl rfl<|ZM<|ZI<|Ze<|Za<|gm rfl rfl<|gr rfl (by exact ZL (b:=1) rfl rfl (by omega)) ?_
  refine gas rfl rfl<|ZM<|Ze ?_
  exact ZR ((k+1,_)) ⟨by simp only; omega,by simp only; omega⟩ ⟨rfl,rfl,rfl,trivial⟩ ⟨[0],by decide,rfl⟩
 refine gA<|Zl rfl<|Z1<|Zs<|Zs<|ZE<|Ze<|Zb<|Zb<|Za<|gas rfl rfl<|gA<|ZB<|ZZ (ι:=Nat × Bool) [(1,_)] [_] (fun q=>q.1≤s.rs.length) (fun q Fr0=>((3,.bool q.2)::(5,natV q.1)::Fr0)) (fun q Fr0=>Fr0) (fun q=>s.rs.length - q.1) (0,_) (Nat.zero_le _) ⟨rfl,rfl,rfl,trivial⟩ ⟨[0],by decide,rfl⟩ ?_
 rintro ⟨k,bb⟩ hk
 simp only at hk ⊢
 refine Zb<|Zb<|Za<|gm rfl rfl<|gr rfl (Zd rfl (WD _))<|gr rfl (Zi Tryz.underlying41 rfl rfl (by exact Zp 0 rfl rfl)) ?_
 refine gr rfl (ZA Tryz.underlying41 rfl)<|gr rfl (ZX rfl rfl) (Zw (fun h52=>?_) (fun h52=>?_))
 ·obtain ⟨x,hx⟩:=get_some (show k<s.rs.length by omega)
  refine gA<|Zk rfl<|Zv<|Ze<|Zb<|ZB<|Za<|gm rfl rfl<|gm rfl rfl<|Z0 (fun hb56=>?_) (fun hb56=>?_)
  ·refine Zj rfl rfl rfl<|Zj rfl rfl rfl<|Zj rfl rfl rfl<|Zj rfl rfl rfl<|Zj rfl rfl rfl<|Zj rfl rfl rfl<|Zj rfl rfl rfl<|Zj rfl rfl rfl<|gr rfl (Zq rfl rfl)<|gas rfl rfl<|ZM<|ZI<|Ze<|Za<|gm rfl rfl<|gr rfl (by exact ZL (b:=1) rfl rfl (by omega)) ?_
   refine gas rfl rfl<|ZM<|Ze ?_
   exact ZR ((k+1,_)) ⟨by simp only; omega,by simp only; omega⟩ ⟨rfl,rfl,rfl,trivial⟩ ⟨[0],by decide,rfl⟩
  refine Zg rfl rfl<|Zm rfl (Zd rfl (WD _))<|Zg rfl rfl (Zm rfl (Zi Tryz.underlying41 rfl rfl (by exact Zp 0 rfl rfl)) ?_)
  refine Zg rfl rfl<|Zm rfl (Zo rfl)<|Zg rfl rfl (Zm rfl (Z3 hS.r Tryz.underlying41 Wu rfl rfl (by omega) (by omega)) ?_)
  refine Zg rfl rfl<|Zm rfl (Zd rfl (Zbn _))<|Zg rfl rfl (Zm rfl (Zi Tryz.underlying9 rfl rfl (XS hS.r (Y0 Rk.cells 6 (fun _=>rfl) hx (j:=0) (by decide) rfl))) ?_)
  refine Zg rfl rfl<|Zm rfl (Xp Tryz.underlying9 rfl)<|Zg rfl rfl<|Zm rfl (Yk rfl rfl)<|gr rfl (Zn rfl rfl)<|gas rfl rfl<|ZM<|ZI<|Ze<|Za<|gm rfl rfl<|gr rfl (by exact ZL (b:=1) rfl rfl (by omega)) ?_
  refine gas rfl rfl<|ZM<|Ze ?_
  exact ZR ((k+1,_)) ⟨by simp only; omega,by simp only; omega⟩ ⟨rfl,rfl,rfl,trivial⟩ ⟨[0],by decide,rfl⟩
 refine gA<|Zl rfl<|Z1<|Zs<|Zs<|ZE<|Ze<|Zb<|Zb<|Za<|gas rfl rfl<|gA<|ZB<|ZZ (ι:=Nat × Bool) [(1,_)] [_] (fun q=>q.1≤s.ss.length) (fun q Fr0=>((3,.bool q.2)::(6,natV q.1)::Fr0)) (fun q Fr0=>Fr0) (fun q=>s.ss.length - q.1) (0,_) (Nat.zero_le _) ⟨rfl,rfl,rfl,trivial⟩ ⟨[0],by decide,rfl⟩ ?_
 rintro ⟨k,bb⟩ hk
 simp only at hk ⊢
 refine Zb<|Zb<|Za<|gm rfl rfl<|gr rfl (Zd rfl (Xg _))<|gr rfl (Zi Tryz.underlying42 rfl rfl (by exact Zp 0 rfl rfl)) ?_
 refine gr rfl (ZA Tryz.underlying42 rfl)<|gr rfl (ZX rfl rfl) (Zw (fun h70=>?_) (fun h70=>?_))
 ·obtain ⟨x,hx⟩:=get_some (show k<s.ss.length by omega)
  refine gA<|Zk rfl<|Zv<|Ze<|Zb<|ZB<|Za<|gm rfl rfl<|gm rfl rfl<|Z0 (fun hb74=>?_) (fun hb74=>?_)
  ·refine Zj rfl rfl rfl<|Zj rfl rfl rfl<|Zj rfl rfl rfl<|Zj rfl rfl rfl<|Zj rfl rfl rfl<|Zj rfl rfl rfl<|Zj rfl rfl rfl<|Zj rfl rfl rfl<|gr rfl (Zq rfl rfl)<|gm rfl rfl<|Zj rfl rfl rfl<|Zj rfl rfl rfl<|Zj rfl rfl rfl<|Zj rfl rfl rfl<|Zj rfl rfl rfl<|Zj rfl rfl rfl<|Zj rfl rfl rfl<|Zj rfl rfl rfl<|gr rfl (Zq rfl rfl)<|gas rfl rfl<|ZM<|ZI<|Ze<|Za<|gr rfl (Zo rfl) ?_
   refine gr rfl (by exact ZL (b:=1) rfl rfl (by omega)) ?_
   refine gas rfl rfl<|ZM<|Ze ?_
   exact ZR ((k+1,_)) ⟨by simp only; omega,by simp only; omega⟩ ⟨rfl,rfl,rfl,trivial⟩ ⟨[0],by decide,rfl⟩
  refine Zg rfl rfl<|Zm rfl (Zd rfl (Xg _))<|Zg rfl rfl (Zm rfl (Zi Tryz.underlying42 rfl rfl (by exact Zp 0 rfl rfl)) ?_)
  refine Zg rfl rfl<|Zm rfl (Zo rfl)<|Zg rfl rfl (Zm rfl (Z3 hS.t Tryz.underlying42 WN rfl rfl (by omega) (by omega)) ?_)
  refine Zg rfl rfl<|Zm rfl (Zd rfl (Zch _))<|Zg rfl rfl (Zm rfl (Zi Tryz.underlying9 rfl rfl (XS hS.t (Y0 St.cells 5 (fun _=>rfl) hx (j:=0) (by decide) rfl))) ?_)
  refine Zg rfl rfl<|Zm rfl (Xp Tryz.underlying9 rfl)<|Zg rfl rfl (Zm rfl (Yk rfl rfl) (Zw (fun h82=>?_) (fun h82=>?_)))
  ·refine gr rfl (Zn rfl rfl)<|gm rfl rfl<|Zj rfl rfl rfl<|Zj rfl rfl rfl<|Zj rfl rfl rfl<|Zj rfl rfl rfl<|Zj rfl rfl rfl<|Zj rfl rfl rfl<|Zj rfl rfl rfl<|Zj rfl rfl rfl<|gr rfl (Zq rfl rfl)<|gas rfl rfl<|ZM<|ZI<|Ze<|Za<|gm rfl rfl<|gr rfl (by exact ZL (b:=1) rfl rfl (by omega)) ?_
   refine gas rfl rfl<|ZM<|Ze ?_
   exact ZR ((k+1,_)) ⟨by simp only; omega,by simp only; omega⟩ ⟨rfl,rfl,rfl,trivial⟩ ⟨[0],by decide,rfl⟩
  refine gr rfl (Zn rfl rfl)<|gm rfl rfl<|Zg rfl rfl<|Zm rfl (Zd rfl (Xg _))<|Zg rfl rfl (Zm rfl (Zi Tryz.underlying42 rfl rfl (by exact Zp 0 rfl rfl)) ?_)
  refine Zg rfl rfl<|Zm rfl (Zo rfl)<|Zg rfl rfl (Zm rfl (Z3 hS.t Tryz.underlying42 WN rfl rfl (by omega) (by omega)) ?_)
  refine Zg rfl rfl<|Zm rfl (Zd rfl (JH _))<|Zg rfl rfl (Zm rfl (Zi Tryz.underlying97 rfl rfl (XS hS.t (Y0 St.cells 5 (fun _=>rfl) hx (j:=4) (by decide) rfl))) ?_)
  refine Zg rfl rfl<|Zm rfl (ZA Tryz.underlying97 rfl)<|Zg rfl rfl<|Zm rfl (Yk rfl rfl)<|gr rfl (Zn rfl rfl)<|gas rfl rfl<|ZM<|ZI<|Ze<|Za<|gm rfl rfl<|gr rfl (by exact ZL (b:=1) rfl rfl (by omega)) ?_
  refine gas rfl rfl<|ZM<|Ze ?_
  exact ZR ((k+1,_)) ⟨by simp only; omega,by simp only; omega⟩ ⟨rfl,rfl,rfl,trivial⟩ ⟨[0],by decide,rfl⟩
 refine gA<|Zl rfl<|Z1<|Zs<|Zs<|ZE<|Ze<|Zb<|Zb<|Za<|gas rfl rfl<|gA<|ZB<|ZZ (ι:=Nat × Bool) [(1,_)] [_] (fun q=>q.1≤s.cs.length) (fun q Fr0=>((3,.bool q.2)::(7,natV q.1)::Fr0)) (fun q Fr0=>Fr0) (fun q=>s.cs.length - q.1) (0,_) (Nat.zero_le _) ⟨rfl,rfl,rfl,trivial⟩ ⟨[0],by decide,rfl⟩ ?_
 rintro ⟨k,bb⟩ hk
 simp only at hk ⊢
 refine Zb<|Zb<|Za<|gm rfl rfl<|gr rfl (Zd rfl (XM _))<|gr rfl (Zi Tryz.underlying43 rfl rfl (by exact Zp 0 rfl rfl)) ?_
 refine gr rfl (ZA Tryz.underlying43 rfl)<|gr rfl (ZX rfl rfl) (Zw (fun h98=>?_) (fun h98=>?_))
 ·obtain ⟨x,hx⟩:=get_some (show k<s.cs.length by omega)
  refine gA<|Zk rfl<|Zv<|Ze<|Zb<|ZB<|Za<|gm rfl rfl<|gm rfl rfl<|Z0 (fun hb102=>?_) (fun hb102=>?_)
  ·refine Zj rfl rfl rfl<|Zj rfl rfl rfl<|Zj rfl rfl rfl<|Zj rfl rfl rfl<|Zj rfl rfl rfl<|Zj rfl rfl rfl<|Zj rfl rfl rfl<|Zj rfl rfl rfl<|gr rfl (Zq rfl rfl)<|gas rfl rfl<|ZM<|ZI<|Ze<|Za<|gm rfl rfl<|gr rfl (by exact ZL (b:=1) rfl rfl (by omega)) ?_
   refine gas rfl rfl<|ZM<|Ze ?_
   exact ZR ((k+1,_)) ⟨by simp only; omega,by simp only; omega⟩ ⟨rfl,rfl,rfl,trivial⟩ ⟨[0],by decide,rfl⟩
  refine Zg rfl rfl<|Zm rfl (Zd rfl (XM _))<|Zg rfl rfl (Zm rfl (Zi Tryz.underlying43 rfl rfl (by exact Zp 0 rfl rfl)) ?_)
  refine Zg rfl rfl<|Zm rfl (Zo rfl)<|Zg rfl rfl (Zm rfl (Z3 hS.c Tryz.underlying43 WZ rfl rfl (by omega) (by omega)) ?_)
  refine Zg rfl rfl<|Zm rfl (Zd rfl (Zbo _))<|Zg rfl rfl (Zm rfl (Zi Tryz.underlying9 rfl rfl (XS hS.c (Y0 Cp.cells 6 (fun _=>rfl) hx (j:=0) (by decide) rfl))) ?_)
  refine Zg rfl rfl<|Zm rfl (Xp Tryz.underlying9 rfl)<|Zg rfl rfl<|Zm rfl (Yk rfl rfl)<|gr rfl (Zn rfl rfl)<|gas rfl rfl<|ZM<|ZI<|Ze<|Za<|gm rfl rfl<|gr rfl (by exact ZL (b:=1) rfl rfl (by omega)) ?_
  refine gas rfl rfl<|ZM<|Ze ?_
  exact ZR ((k+1,_)) ⟨by simp only; omega,by simp only; omega⟩ ⟨rfl,rfl,rfl,trivial⟩ ⟨[0],by decide,rfl⟩
 refine gA<|Zl rfl<|Z1<|Zs<|Zs<|ZE<|Ze<|Zb<|Za<|gm rfl rfl<|gas rfl rfl<|gA<|Zu<|Zy (.inl rfl) Tryz.results23 rfl [] (by decide) ?_
 exact ⟨_,rfl,rfl⟩
theorem ex10_ok (w0:World):Sp Tryz.prog 13 [] w0 [] (fun v L=>∃ b0 b6 b11 b14 b18 b22 b24 b26,v=(Zht b6 b11 b14 b18 b22 b24 b26).val∧L=[.blk b0 (Zht b6 b11 b14 b18 b22 b24 b26).cells 45,.row 113 6 (some b26) 1 1 (exC1.flatMap Cp.cells),.row 99 5 (some b24) 3 3 ((exSs b14 b18 b22).flatMap St.cells),.row 96 4 (some b22) 1 1 (exP3.flatMap Pt.cells),.row 96 4 (some b18) 1 1 (exP2.flatMap Pt.cells),.row 96 4 (some b14) 1 1 (exP1.flatMap Pt.cells),.row 111 6 (some b11) 2 2 (exRs.flatMap Rk.cells),.row 109 3 (some b6) 1 1 (exDs.flatMap Dv.cells)]):=by
 refine ZC Tryz.func13 rfl Tryz.ntmps13 rfl (Own.refl _) ?_
 simp only [ZV]
 refine Zb<|Za<|Zt (ZU Xu rfl rfl (fun b0=>?_))
 refine gA<|Zb<|Za<|gr rfl (ZT rfl (fun _=>Zji _ _)) ?_
 refine gr rfl (ZT rfl (fun _=>Zji _ _)) ?_
 refine Zt (ZU Jl rfl rfl (fun b1=>?_))
 refine Zt (ZU Jl rfl rfl (fun b2=>?_))
 refine Zt (Zz 1 Jl rfl rfl rfl rfl rfl rfl (by rfl) ?_)
 refine Zt (Zz 0 Jl rfl rfl rfl rfl rfl rfl (by rfl) ?_)
 refine gA<|Zb<|Za<|gr rfl (ZT rfl (fun _=>Zky _ _ _)) ?_
 refine Zt (ZQ (sz:=3) rfl rfl (fun _=>Zre _ _ _) rfl rfl (fun b6=>?_))
 refine gr rfl (Zr Tryz.underlying94 rfl Jl rfl (by exact ZH 2 (off:=0) (k:=2) rfl rfl) rfl) ?_
 refine gr rfl (ZT rfl (fun _=>J6 _ _ _ _ _ _)) ?_
 refine gr rfl (Zr Tryz.underlying94 rfl Jl rfl (by exact ZH 2 (off:=0) (k:=2) rfl rfl) rfl) ?_
 refine gr rfl (ZT rfl (fun _=>J6 _ _ _ _ _ _)) ?_
 refine Zt (ZQ (sz:=6) rfl rfl (fun _=>Zmq _ _ _ _ _ _ _ _ _ _ _ _) rfl rfl (fun b11=>?_))
 refine gr rfl (Zr Tryz.underlying94 rfl Jl rfl (by exact ZH 3 (off:=0) (k:=2) rfl rfl) rfl) ?_
 refine gr rfl (ZT rfl (fun _=>Zrd _ _)) ?_
 refine Zt (ZQ (sz:=4) rfl rfl (fun _=>Zez _ _ _ _) rfl rfl (fun b14=>?_))
 refine gr rfl (ZT rfl (fun _=>Zbu _ _ _ _ _ _)) ?_
 refine gr rfl (Zr Tryz.underlying94 rfl Jl rfl (by exact ZH 3 (off:=0) (k:=2) rfl rfl) rfl) ?_
 refine gr rfl (ZT rfl (fun _=>Zmp _ _ _)) ?_
 refine Zt (ZQ (sz:=4) rfl rfl (fun _=>Zez _ _ _ _) rfl rfl (fun b18=>?_))
 refine gr rfl (ZT rfl (fun _=>Zbu _ _ _ _ _ _)) ?_
 refine gr rfl (Zr Tryz.underlying94 rfl Jl rfl (by exact ZH 5 (off:=0) (k:=2) rfl rfl) rfl) ?_
 refine gr rfl (ZT rfl (fun _=>Zmo _ _ _)) ?_
 refine Zt (ZQ (sz:=4) rfl rfl (fun _=>Zez _ _ _ _) rfl rfl (fun b22=>?_))
 refine gr rfl (ZT rfl (fun _=>Zbu _ _ _ _ _ _)) ?_
 refine Zt (ZQ (sz:=5) rfl rfl (fun _=>Zi0 _ _ _ _ _ _ _ _ _ _ _ _ _ _ _ _ _ _ _ _ _) rfl rfl (fun b24=>?_))
 refine gr rfl (ZT rfl (fun _=>Zor _ _)) ?_
 refine Zt (ZQ (sz:=6) rfl rfl (fun _=>Zrf _ _ _ _ _ _) rfl rfl (fun b26=>?_))
 refine gr rfl (ZT rfl (fun _=>Ziz _ _ _ _ _ _ _ _ _ _ _ _)) ?_
 refine Zt (Zz 9 Xu rfl rfl rfl rfl rfl rfl (by rfl) ?_)
 refine gA<|Zu<|J2 (.inl rfl) Tryz.results13 (YC Tryz.underlying45 rfl Xu rfl (by rfl) (ZH 9 (off:=0) (k:=4) rfl rfl)) [9,0,1,2,3,4,5,6] (by decide) ?_
 exact ⟨b0,b6,b11,b14,b18,b22,b24,b26,rfl,rfl⟩
end Go.Proofs.YthcbcdjkfefnlaaGreatDoor
namespace Go.Proofs.YthcbcdjkfefnlaaGreatDoor
open Go.Gv
open Go.RowKit
theorem eg_65 : Tryz.prog.eqGuardType Tryz.prog.depth 65=false:=by kernel_rfl
theorem eg_32 : Tryz.prog.eqGuardType Tryz.prog.depth 32=false:=by kernel_rfl
theorem eg_33 : Tryz.prog.eqGuardType Tryz.prog.depth 33=false:=by kernel_rfl
namespace Iv
theorem and32 {n:Nat} (h:n<4294967296):n &&& 4294967295=n:=by
 have:=Nat.and_two_pow_sub_one_eq_mod n 32
 rw [show (2 ^ 32 - 1:Nat)=4294967295 from rfl] at this
 rw [this,Nat.mod_eq_of_lt h]
theorem shr32 {n:Nat} (h:n<4294967296):n >>> 32=0:=by
 rw [Nat.shiftRight_eq_div_pow,Nat.div_eq_of_lt h]
theorem Zbv {g cap k:Nat} (h:k<cap):Zcq (some ⟨g,0,none⟩) cap k 1=some ⟨g,k,none⟩:=by
 unfold Zcq
 rw [if_neg (by omega)]
 simp [Addr.add]
 omega
theorem Ze3 {g cap k:Nat} (h:k<cap):Zcq (rowA (some g)) cap k 1=some ⟨g,k,none⟩:=Zbv h
theorem Zbw {w:World} {E:TypeId} {sz:Nat} {r:Option Nat} {m cap:Nat} {xs:List Value} (h:HL.holds w (.row E sz r m cap xs)) (hm:0<m):∃ g,r=some g∧m≤cap:=by
 obtain ⟨_,h2⟩:=h
 cases r with
 | none=>obtain ⟨h3,_⟩:=h2; omega
 | some g=>obtain ⟨_,_,h3,_⟩:=h2; exact ⟨g,rfl,h3⟩
theorem Zoz (b c:List Nat) (o:Nat):(b.map u8V).take o++c.map u8V++(b.map u8V).drop (o+(c.map u8V).length)=(b.take o++c++b.drop (o+c.length)).map u8V:=by simp
end Iv
open Iv
theorem Mul64_ok (n:Nat) (hn:n<4294967296) (w0:World):Sp Tryz.prog 126 [.int .u64 ((1:Nat):Int),.int .u64 (n:Int)] w0 [] (RV (.tuple #[.int .u64 ((0:Nat):Int),.int .u64 (n:Int)])):=by
 refine ZC Tryz.func126 rfl Tryz.ntmps126 rfl (Own.refl _) ?_
 simp only [ZV]
 refine Zb<|Za<|gas rfl rfl<|gas rfl rfl<|gA<|Zb<|Za<|gm rfl rfl<|gr rfl (Zku (a:=1) (b:=4294967295) (c:=1) rfl rfl (by omega) (by omega) (rfl)) ?_
 refine gas rfl rfl<|gA<|Zb<|Za<|gm rfl rfl<|gr rfl (Zdl (a:=1) (b:=32) (c:=0) rfl rfl (by omega) (rfl)) ?_
 refine gas rfl rfl<|gA<|Zb<|Za<|gm rfl rfl<|gr rfl (Zku (a:=n) (b:=4294967295) (c:=n) rfl rfl (by omega) (by omega) (and32 hn)) ?_
 refine gas rfl rfl<|gA<|Zb<|Za<|gm rfl rfl<|gr rfl (Zdl (a:=n) (b:=32) (c:=0) rfl rfl (by omega) (shr32 hn)) ?_
 refine gas rfl rfl<|gA<|Zb<|Za<|gm rfl rfl<|gm rfl rfl<|gr rfl (Zdk (a:=1) (b:=n) (c:=n) rfl rfl (by simp) (by omega)) ?_
 refine gas rfl rfl<|gA<|Zb<|Za<|gm rfl rfl<|gm rfl rfl<|gr rfl (Zdk (a:=0) (b:=n) (c:=0) rfl rfl (by simp) (by omega)) ?_
 refine gm rfl rfl<|gr rfl (Zdl (a:=n) (b:=32) (c:=0) rfl rfl (by omega) (shr32 hn)) ?_
 refine gr rfl (Zgf (a:=0) (b:=0) (c:=0) rfl rfl rfl (by omega)) ?_
 refine gas rfl rfl<|gA<|Zb<|Za<|gm rfl rfl<|gr rfl (Zku (a:=0) (b:=4294967295) (c:=0) rfl rfl (by omega) (by omega) (rfl)) ?_
 refine gas rfl rfl<|gA<|Zb<|Za<|gm rfl rfl<|gr rfl (Zdl (a:=0) (b:=32) (c:=0) rfl rfl (by omega) (rfl)) ?_
 refine gas rfl rfl<|gA<|Zb<|Za<|gm rfl rfl<|gm rfl rfl<|gm rfl rfl<|gr rfl (Zdk (a:=1) (b:=0) (c:=0) rfl rfl (by simp) (by omega)) ?_
 refine gr rfl (Zgf (a:=0) (b:=0) (c:=0) rfl rfl rfl (by omega)) ?_
 refine gas rfl rfl<|gA<|Zb<|Za<|gm rfl rfl<|gm rfl rfl<|gr rfl (Zdk (a:=0) (b:=0) (c:=0) rfl rfl (by simp) (by omega)) ?_
 refine gm rfl rfl<|gr rfl (Zgf (a:=0) (b:=0) (c:=0) rfl rfl rfl (by omega)) ?_
 refine gm rfl rfl<|gr rfl (Zdl (a:=0) (b:=32) (c:=0) rfl rfl (by omega) (rfl)) ?_
 refine gr rfl (Zgf (a:=0) (b:=0) (c:=0) rfl rfl rfl (by omega)) ?_
 refine gas rfl rfl<|gA<|Zb<|Za<|gm rfl rfl<|gm rfl rfl<|gr rfl (Zdk (a:=1) (b:=n) (c:=n) rfl rfl (by simp) (by omega)) ?_
 refine gas rfl rfl<|gA<|Zu<|Y5 (.inl rfl) Tryz.results126 rfl rfl [] (by decide) ?_
 exact ⟨rfl,rfl⟩
theorem Mul_ok (n:Nat) (hn:n<4294967296) (w0:World):Sp Tryz.prog 110 [.int .u64 ((1:Nat):Int),.int .u64 (n:Int)] w0 [] (RV (.tuple #[.int .u64 ((0:Nat):Int),.int .u64 (n:Int)])):=by
 refine ZC Tryz.func110 rfl Tryz.ntmps110 rfl (Own.refl _) ?_
 simp only [ZV]
 refine Zb<|Za<|gas rfl rfl<|gas rfl rfl<|gA<|Zb<|Zl rfl<|Zv<|Ze<|Zb<|Za<|gm rfl rfl<|gm rfl rfl<|Zt (ZJ rfl (vf:=[]) (vc:=[]) rfl rfl Tryz.call126 (fun w1 ho=>Mul64_ok n hn w1) ?_)
 rintro _ _ ⟨rfl,rfl⟩
 refine gm rfl rfl<|gr rfl (ZD rfl rfl)<|gr rfl (ZD rfl rfl)<|gas rfl rfl<|gas rfl rfl<|gA<|Zb<|Za<|gm rfl rfl<|gm rfl rfl<|gas rfl rfl<|gas rfl rfl<|gA<|Zu<|Y5 (.inl rfl) Tryz.results110 rfl rfl [] (by decide) ?_
 exact ⟨rfl,rfl⟩
theorem Wg (zs:List Nat) (a:Option Addr) (ca:Nat) (w0:World) (hsl:OldSl w0 [] a zs.length 1 (zs.map u8V)) (hn:zs.length≤140737488355328):Sp Tryz.prog 39 [.slice a zs.length ca] w0 [] (fun v L=>∃ (r:Option Nat) (cp:Nat),v=.slice (rowA r) zs.length cp∧L=[.row 5 1 r zs.length cp (zs.map u8V)]):=by
 refine ZC Tryz.func39 rfl Tryz.ntmps39 rfl (Own.refl _) ?_
 simp only [ZV]
 refine Zb<|Za<|gas rfl rfl<|gA<|Zb<|Zb<|Za<|gm rfl rfl<|gr rfl (JB eg_65 Tryz.underlying65 rfl rfl)<|Z0 (fun h4=>?_) (fun h4=>?_)
 ·obtain rfl:a=none:=by cases a with
   | none=>rfl
   | some ad=>cases h4
  obtain rfl:zs=[]:=by
   cases zs with
   | nil=>rfl
   | cons z zs=>have:=hsl.isSome (by simp); cases this
  refine gA<|Zk rfl<|Zb<|YH 5 1<|Za<|gas rfl rfl<|gA<|Zu<|Zh<|Zy (.inl rfl) Tryz.results39 rfl [0] (by decide) ?_
  exact ⟨none,0,rfl,rfl⟩
 refine gA<|Zl rfl<|Zv<|Ze<|Zb<|Za<|Zt (ZQ (sz:=1) rfl rfl (fun _=>Zmr) rfl rfl (fun b5=>?_))
 refine gm rfl rfl<|Zt (Jy 0 hsl Tryz.underlying65 YJ rfl (by decide) rfl rfl rfl rfl (Zkt zs) (by omega) (by omega) (fun _=>(by rfl)) (fun r7 c7=>?_))
 refine gas rfl rfl<|gA<|Zu<|Zy (.inl rfl) Tryz.results39 rfl [0] (by decide) ?_
 exact ⟨r7,c7,by rw [Nat.zero_add],by rw [Nat.zero_add]; rfl⟩
theorem J8 (z n:Nat) (a:Option Addr) (ca:Nat) (w0:World) (hsl:OldSl w0 [] a 1 1 [u8V z]) (hn:n≤1000000):Sp Tryz.prog 76 [.slice a 1 ca,natV n] w0 [] (fun v L=>∃ (r cp:Nat),v=.slice (some ⟨r,0,none⟩) n n∧L=[.row 5 1 (some r) n cp ((List.replicate n z).map u8V)]):=by
 obtain ⟨ad,rfl⟩:∃ ad,a=some ad:=by
  have:=hsl.isSome (by decide)
  cases a with
  | none=>cases this
  | some ad=>exact ⟨ad,rfl⟩
 refine ZC Tryz.func76 rfl Tryz.ntmps76 rfl (Own.refl _) ?_
 simp only [ZV]
 refine Zb<|Za<|gas rfl rfl<|gA<|Zb<|Zb<|Za<|gm rfl rfl<|gr rfl (Z8 rfl rfl) (Zw (fun h13=>?_) (fun h13=>?_))
 ·refine gA<|Zk rfl<|Zb<|Za<|Zt (ZQ (sz:=1) rfl rfl (fun _=>Zmr) rfl rfl (fun b14=>?_))
  refine gas rfl rfl<|gA<|Zu<|Zh<|Zy (.inl rfl) Tryz.results76 rfl [0] (by decide) ?_
  obtain rfl:n=0:=by omega
  exact ⟨b14,0,rfl,rfl⟩
 refine gA<|Zl rfl<|Zv<|Ze<|Zb<|Zb<|Za<|gm rfl rfl<|gr rfl (ZX rfl rfl) (Zw (fun h16=>?_) (fun h16=>?_))
 ·exfalso; omega
 refine gA<|Zl rfl<|Zv<|Ze<|Zb<|Za<|gm rfl rfl<|gr rfl (ZA Tryz.underlying65 rfl)<|gr rfl (Xb Tryz.runUnderlying3 Tryz.runUnderlying192 rfl (Va (n:=1) (by omega))) ?_
 refine gm rfl rfl<|gr rfl (Xb Tryz.runUnderlying3 Tryz.runUnderlying192 rfl (Va (by omega))) ?_
 refine Zt (ZJ rfl (vf:=[]) (vc:=[]) rfl rfl Tryz.call110 (fun w1 ho=>Mul_ok n (by omega) w1) ?_)
 rintro _ _ ⟨rfl,rfl⟩
 refine gm rfl rfl<|gr rfl (ZD rfl rfl)<|gr rfl (ZD rfl rfl)<|gas rfl rfl<|gas rfl rfl<|gA<|Zb<|Zb<|Za<|gm rfl rfl<|gr rfl (Yk rfl rfl) (Zw (fun h28=>?_) (fun h28=>?_))
 ·exfalso; omega
 refine gm rfl rfl<|Zg rfl rfl<|Zm rfl (Zo rfl)<|Zg rfl rfl (Zm rfl (Yk rfl rfl) (Zw (fun h31=>?_) (fun h31=>?_)))
 ·exfalso; omega
 refine gr rfl (Zn rfl rfl)<|gA<|Zl rfl<|Zv<|Ze<|Zb<|Za<|gm rfl rfl<|gr rfl (Xb Tryz.runUnderlying192 Tryz.runUnderlying3 rfl (Wy (by omega) (by omega))) ?_
 refine gas rfl rfl<|gA<|Zb<|Zb<|Za<|gm rfl rfl<|gr rfl (ZA Tryz.underlying65 rfl)<|gr rfl (Z8 rfl rfl) (Zw (fun h38=>?_) (fun h38=>?_))
 ·exfalso; omega
 refine gA<|Zl rfl<|Zv<|Ze<|Zb<|Za<|gm rfl rfl<|gas rfl rfl<|gA<|Zb<|Zb<|Za<|gm rfl rfl<|gr rfl (Yk rfl rfl) (Zw (fun h42=>?_) (fun h42=>?_))
 ·refine gA<|Zk rfl<|Zb<|Za<|gm rfl rfl<|gr rfl (ZA Tryz.underlying65 rfl)<|gr rfl (by exact JA (a:=8192) rfl rfl (by omega) (by omega)) ?_
  refine gm rfl rfl<|gr rfl (ZA Tryz.underlying65 rfl)<|gr rfl (by exact XX rfl rfl (by omega)) ?_
  refine gas rfl rfl<|gA<|Zb<|Za<|gm rfl rfl<|gr rfl (Z8 rfl rfl) (Zw (fun h50=>?_) (fun h50=>?_))
  ·exfalso; omega
  refine gA<|Zl rfl<|Zv<|Ze<|Zb<|Za<|gm rfl rfl<|Zt (Zja (p:=3) (m:=n) Tryz.func111 rfl rfl (by kernel_rfl) (by kernel_rfl) Tryz.underlying65 rfl rfl (by omega) (fun bn cn xs hcn hxl=>?_))
  refine gm rfl rfl<|gm rfl rfl<|gr rfl (Zi9 Tryz.underlying65 YJ rfl rfl rfl (by omega) (by omega) (by omega)) ?_
  refine gas rfl rfl<|gA<|Zb<|Za<|gm rfl rfl<|gm rfl rfl<|Zt (WY 0 0 (cs:=[u8V z]) (sLen:=1) Tryz.underlying65 YJ rfl rfl rfl rfl (show 1=Nat.min 1 n from (Nat.min_eq_left (by omega)).symm) (ad:=ad) (fun w ho=>(hsl.at ho).cells) (by simp; omega) (by simp [Value.oneCell']) (by rfl) ?_)
  refine gas rfl rfl<|gA<|Zb<|ZB<|ZZ (ι:=Nat × List Value) [(7,_),(8,_),(9,_)] [] (fun j=>1≤j.1∧j.1≤n∧j.2.length=n∧j.2.take j.1=List.replicate j.1 (u8V z)) (fun j Fr0=>((10,natV j.1)::Fr0)) (fun j Fr0=>(.row 5 1 (some bn) n cn j.2::Fr0)) (fun j=>n - j.1) (1,xs.take 0++[u8V z]++xs.drop (0 + [u8V z].length)) (⟨by simp only; omega,by simp only; omega,by simp; omega,by simp⟩) ⟨rfl,rfl,rfl,rfl,trivial⟩ ⟨[0],by decide,rfl⟩ ?_
  rintro ⟨k,ys⟩ ⟨hk1,hkn,hyl,hys⟩
  simp only at hk1 hkn hyl hys ⊢
  refine Zb<|Zb<|Za<|gm rfl rfl<|gm rfl rfl<|gr rfl (ZX rfl rfl) (Zw (fun h63=>?_) (fun h63=>?_))
  ·refine gA<|Zk rfl<|Zv<|Ze<|ZB<|Zb<|Za<|gm rfl rfl<|gm rfl rfl<|gr rfl (Zlz rfl rfl)<|gas rfl rfl<|gA<|ZO [] true 9 rfl<|Zc 0 rfl rfl ⟨[],by decide,rfl⟩ (Zf (Zo rfl)) ?_
   refine Zc 1 rfl rfl ⟨[],by decide,rfl⟩ (Zf (Zo rfl)) ?_
   refine Zc 2 rfl rfl ⟨[],by decide,rfl⟩ (Zf (Zo rfl)) ?_
   refine Zc 3 rfl rfl ⟨[],by decide,rfl⟩ (Zf (Zaq Tryz.underlying65 YJ rfl rfl (by omega) (by omega))) ?_
   refine Zc 4 rfl rfl ⟨[],by decide,rfl⟩ (Zf (Zo rfl)) ?_
   refine Zc 5 rfl rfl ⟨[],by decide,rfl⟩ (Zf (Zo rfl)) ?_
   refine Zc 6 rfl rfl ⟨[],by decide,rfl⟩ (Zf (Jg Tryz.underlying65 YJ rfl rfl (by omega) (by omega))) ?_
   simp only [Int.toNat_natCast]
   rw [Zbv (show k<n by omega)]
   obtain ⟨c,hc⟩:∃ c,c=min (min k (8192 / 1 * 1)) (n - k):=⟨_,rfl⟩
   have hcs:(ys.drop 0).take c=List.replicate c (u8V z):=by
    have h:=congrArg (List.take c) hys
    rw [List.take_take,List.take_replicate,Nat.min_eq_left (by omega)] at h
    exact h
   refine ZK 7 rfl (.inr ⟨[],by decide,rfl⟩) (WY 0 k (cs:=List.replicate c (u8V z)) Tryz.underlying65 YJ rfl rfl rfl rfl (by rw [List.length_replicate]; exact hc) (Zek 0 (a:=some bn) rfl hcs) (by rw [List.length_replicate]; omega) (fun u hu=>by rw [List.eq_of_mem_replicate hu]; rfl) (by rfl) ?_)
   rw [List.length_replicate]
   refine Zc 8 rfl rfl ⟨[],by decide,rfl⟩ (Zf (by exact ZL rfl rfl (by omega))) ?_
   refine Zc 9 rfl rfl ⟨[],by decide,rfl⟩ (Zf (ZY rfl)) ?_
   refine ZP (.inr ⟨[],by decide,rfl⟩) ?_
   refine ZI<|Ze ?_
   exact ZR ((k+c,ys.take k++List.replicate c (u8V z)++ys.drop (k+c))) ⟨⟨by simp only; omega,by simp only; omega,by simp; omega,by simp only; rw [hys,List.replicate_append_replicate,List.take_append_of_le_length (by simp),List.take_of_length_le (by simp)]⟩,by simp only; omega⟩ ⟨rfl,rfl,rfl,rfl,trivial⟩ ⟨[0],by decide,rfl⟩
  refine gA<|Zl rfl<|Z1<|Zs<|Zs<|ZE<|Ze<|Zb<|Za<|gm rfl rfl<|gas rfl rfl<|gA<|Zu<|Zy (.inl rfl) Tryz.results76 rfl [0] (by decide) ?_
  have hye:ys=List.replicate n (u8V z):=by
   rw [show k=n by omega,List.take_of_length_le (by omega)] at hys
   exact hys
  exact ⟨bn,cn,rfl,by rw [hye,List.map_replicate]; rfl⟩
 refine gA<|Zl rfl<|Zv<|Ze<|Zb<|Za<|gm rfl rfl<|Zt (Zja (p:=3) (m:=n) Tryz.func111 rfl rfl (by kernel_rfl) (by kernel_rfl) Tryz.underlying65 rfl rfl (by omega) (fun bn cn xs hcn hxl=>?_))
 refine gm rfl rfl<|gm rfl rfl<|gr rfl (Zi9 Tryz.underlying65 YJ rfl rfl rfl (by omega) (by omega) (by omega)) ?_
 refine gas rfl rfl<|gA<|Zb<|Za<|gm rfl rfl<|gm rfl rfl<|Zt (WY 0 0 (cs:=[u8V z]) (sLen:=1) Tryz.underlying65 YJ rfl rfl rfl rfl (show 1=Nat.min 1 n from (Nat.min_eq_left (by omega)).symm) (ad:=ad) (fun w ho=>(hsl.at ho).cells) (by simp; omega) (by simp [Value.oneCell']) (by rfl) ?_)
 refine gas rfl rfl<|gA<|Zb<|ZB<|ZZ (ι:=Nat × List Value) [(7,_),(8,_),(9,_)] [] (fun j=>1≤j.1∧j.1≤n∧j.2.length=n∧j.2.take j.1=List.replicate j.1 (u8V z)) (fun j Fr0=>((10,natV j.1)::Fr0)) (fun j Fr0=>(.row 5 1 (some bn) n cn j.2::Fr0)) (fun j=>n - j.1) (1,xs.take 0++[u8V z]++xs.drop (0 + [u8V z].length)) (⟨by simp only; omega,by simp only; omega,by simp; omega,by simp⟩) ⟨rfl,rfl,rfl,rfl,trivial⟩ ⟨[0],by decide,rfl⟩ ?_
 rintro ⟨k,ys⟩ ⟨hk1,hkn,hyl,hys⟩
 simp only at hk1 hkn hyl hys ⊢
 refine Zb<|Zb<|Za<|gm rfl rfl<|gm rfl rfl<|gr rfl (ZX rfl rfl) (Zw (fun h63=>?_) (fun h63=>?_))
 ·refine gA<|Zk rfl<|Zv<|Ze<|ZB<|Zb<|Za<|gm rfl rfl<|gm rfl rfl<|gr rfl (Zlz rfl rfl)<|gas rfl rfl<|gA<|ZO [] true 9 rfl<|Zc 0 rfl rfl ⟨[],by decide,rfl⟩ (Zf (Zo rfl)) ?_
  refine Zc 1 rfl rfl ⟨[],by decide,rfl⟩ (Zf (Zo rfl)) ?_
  refine Zc 2 rfl rfl ⟨[],by decide,rfl⟩ (Zf (Zo rfl)) ?_
  refine Zc 3 rfl rfl ⟨[],by decide,rfl⟩ (Zf (Zaq Tryz.underlying65 YJ rfl rfl (by omega) (by omega))) ?_
  refine Zc 4 rfl rfl ⟨[],by decide,rfl⟩ (Zf (Zo rfl)) ?_
  refine Zc 5 rfl rfl ⟨[],by decide,rfl⟩ (Zf (Zo rfl)) ?_
  refine Zc 6 rfl rfl ⟨[],by decide,rfl⟩ (Zf (Jg Tryz.underlying65 YJ rfl rfl (by omega) (by omega))) ?_
  simp only [Int.toNat_natCast]
  rw [Zbv (show k<n by omega)]
  obtain ⟨c,hc⟩:∃ c,c=min (min k n) (n - k):=⟨_,rfl⟩
  have hcs:(ys.drop 0).take c=List.replicate c (u8V z):=by
   have h:=congrArg (List.take c) hys
   rw [List.take_take,List.take_replicate,Nat.min_eq_left (by omega)] at h
   exact h
  refine ZK 7 rfl (.inr ⟨[],by decide,rfl⟩) (WY 0 k (cs:=List.replicate c (u8V z)) Tryz.underlying65 YJ rfl rfl rfl rfl (by rw [List.length_replicate]; exact hc) (Zek 0 (a:=some bn) rfl hcs) (by rw [List.length_replicate]; omega) (fun u hu=>by rw [List.eq_of_mem_replicate hu]; rfl) (by rfl) ?_)
  rw [List.length_replicate]
  refine Zc 8 rfl rfl ⟨[],by decide,rfl⟩ (Zf (by exact ZL rfl rfl (by omega))) ?_
  refine Zc 9 rfl rfl ⟨[],by decide,rfl⟩ (Zf (ZY rfl)) ?_
  refine ZP (.inr ⟨[],by decide,rfl⟩) ?_
  refine ZI<|Ze ?_
  exact ZR ((k+c,ys.take k++List.replicate c (u8V z)++ys.drop (k+c))) ⟨⟨by simp only; omega,by simp only; omega,by simp; omega,by simp only; rw [hys,List.replicate_append_replicate,List.take_append_of_le_length (by simp),List.take_of_length_le (by simp)]⟩,by simp only; omega⟩ ⟨rfl,rfl,rfl,rfl,trivial⟩ ⟨[0],by decide,rfl⟩
 refine gA<|Zl rfl<|Z1<|Zs<|Zs<|ZE<|Ze<|Zb<|Za<|gm rfl rfl<|gas rfl rfl<|gA<|Zu<|Zy (.inl rfl) Tryz.results76 rfl [0] (by decide) ?_
 have hye:ys=List.replicate n (u8V z):=by
  rw [show k=n by omega,List.take_of_length_le (by omega)] at hys
  exact hys
 exact ⟨bn,cn,rfl,by rw [hye,List.map_replicate]; rfl⟩
namespace Iv
structure Fl where
  b:List Nat
  left:Int
  picks:List Nat
  down:Bool
  pr:Nat
  er:Nat
  st:Nat
  deriving Inhabited
abbrev Fl.cells (f:Fl) (rb:Option Nat) (cb:Nat) (rp:Option Nat) (cp:Nat):List Value :=
  [.bool true,.slice (rowA rb) f.b.length cb,.int .i64 f.left,.slice (rowA rp) f.picks.length cp,.bool f.down,natV f.pr,natV f.er,natV f.st]
abbrev FlH (bf:Nat) (rb:Option Nat) (cb:Nat) (rp:Option Nat) (cp:Nat) (f:Fl):List HL :=
  [.blk bf (f.cells rb cb rp cp) 115,.row 5 1 rb f.b.length cb (f.b.map u8V),.row 5 1 rp f.picks.length cp (f.picks.map u8V)]
structure Fl.Ok (f:Fl):Prop where
  bs:∀ z∈f.b,z<256
  ps:∀ z∈f.picks,z<256
  len:f.b.length % 256=0
  lo:1024≤f.b.length
  hi:f.b.length≤16384
  pl:f.picks.length≤256
  pr:f.pr<4611686018427387904
  er:f.er<4611686018427387904
  st:f.st<4611686018427387904
  l0:-1≤f.left
  l1:f.left≤9223372036854775807
def Y1 (f:Fl) (at_:Int) (many:Int):Int:=if at_<0 then 2 else if at_ ≥ many then 2 else if f.down then 9 else 0
def flFails (f:Fl):Fl:=if f.left=0 then { f with down:=true } else if 0<f.left then { f with down:=false,left:=f.left - 1 } else { f with down:=false }
def gB (b:List Nat) (k:Nat):Nat:=b.getD k 0
def Wq (f:Fl) (k v:Nat):Fl × Int :=
  if !(flFails { f with pr:=f.pr+1 }).down then ({ flFails { f with pr:=f.pr+1 } with b:=f.b.set k (gB f.b k &&& v) },0)
  else ({ flFails { f with pr:=f.pr+1 } with b:=f.b.set k (gB f.b k &&& (if 0<f.picks.length then v ||| gB f.picks 0 else v)) },9)
def YO (f:Fl) (at_:Int) (v:Nat):Fl × Int:=if Y1 f at_ f.b.length≠0 then (f,Y1 f at_ f.b.length) else Wq f at_.toNat v
def orTo (picks:List Nat) (b:List Nat) (o n:Nat):List Nat:=(List.range n).foldl (fun b i=>b.set (o+i) (gB b (o+i) ||| gB picks (i % picks.length))) b
def Xv (f:Fl) (k:Nat):Fl × Int :=
  ({ flFails { f with er:=f.er+1 } with b:=if !(flFails { f with er:=f.er+1 }).down || decide (f.picks.length=0) then f.b.take (k * 256)++List.replicate 256 255++f.b.drop (k * 256+256) else orTo f.picks f.b (k * 256) 256 },if (flFails { f with er:=f.er+1 }).down then 9 else 0)
def Yy (f:Fl) (at_:Int):Fl × Int:=if Y1 f at_ (f.b.length / 256:Nat)≠0 then (f,Y1 f at_ (f.b.length / 256:Nat)) else Xv f at_.toNat
def flFuse (f:Fl) (n:Int) (ps:List Nat):Fl × Int:=if n<0∨256<ps.length then (f,2) else if f.down then (f,9) else ({ f with left:=n,picks:=ps },0)
theorem Zjp (f:Fl):(flFails f).b=f.b:=by
 unfold flFails
 split
 ·rfl
 ·split <;> rfl
theorem VI (f:Fl):(flFails f).picks=f.picks:=by
 unfold flFails
 split
 ·rfl
 ·split <;> rfl
theorem Vw {b:List Nat} {k:Nat} (h:k<b.length):b[k]? = some (gB b k):=by simp [gB,h]
theorem X4 {b:List Nat} (h:∀ z∈b,z<256) (k:Nat):gB b k<256:=by
 unfold gB
 by_cases hk:k<b.length
 ·rw [show b.getD k 0=b[k] by simp [hk]]; exact h _ (List.getElem_mem _)
 ·rw [List.getD_eq_getElem?_getD,List.getElem?_eq_none (by omega)]; decide
theorem JK (b:List Nat) (k z:Nat):(b.map u8V).set k (u8V z)=(b.set k z).map u8V:=by rw [List.map_set]
end Iv
end Go.Proofs.YthcbcdjkfefnlaaGreatDoor
namespace Go.Proofs.YthcbcdjkfefnlaaGreatDoor
open Go.Gv
open Go.RowKit
open Iv
theorem Zqc (f:Fl) (hf:f.Ok) (bf:Nat) (rb:Option Nat) (cb:Nat) (rp:Option Nat) (cp:Nat) (S:List Nat) (w0:World) (hown:Own w0 S w0 (FlH bf rb cb rp cp f)) :Sp Tryz.prog 38 [.pointer (some ⟨bf,0,none⟩)] w0 S (fun v L=>v=.bool false∧L=FlH bf rb cb rp cp f):=by
 have hbl:=hf.hi
 have hbl0:=hf.lo
 refine ZC Tryz.func38 rfl Tryz.ntmps38 rfl hown ?_
 simp only [ZV]
 refine Zb<|Za<|gas rfl rfl<|gA<|Zb<|Za<|gm rfl rfl<|gr rfl (X6 eg_32 Tryz.underlying32 rfl rfl)<|gm rfl rfl<|Zg rfl rfl<|Zm rfl (Zo rfl)<|Zg rfl rfl<|Zm rfl (ZN rfl)<|Zg rfl rfl<|Zm rfl (Zd rfl (Zmg _))<|Zg rfl rfl (Zm rfl (Zi Tryz.underlying4 rfl rfl (by exact Zp 0 rfl rfl)) ?_)
 refine Zg rfl rfl<|Zm rfl (rd_not rfl)<|gr rfl (Zn rfl rfl)<|gas rfl rfl<|gA<|Zu<|Zy (.inl rfl) Tryz.results38 rfl [0,1,2] (by decide) ?_
 exact ⟨rfl,rfl⟩
theorem Zjq (f:Fl) (hf:f.Ok) (bf:Nat) (rb:Option Nat) (cb:Nat) (rp:Option Nat) (cp:Nat) (S:List Nat) (w0:World) (hown:Own w0 S w0 (FlH bf rb cb rp cp f)) :Sp Tryz.prog 41 [.pointer (some ⟨bf,0,none⟩)] w0 S (fun v L=>v=natV (f.b.length / 256)∧L=FlH bf rb cb rp cp f):=by
 have hbl:=hf.hi
 have hbl0:=hf.lo
 refine ZC Tryz.func41 rfl Tryz.ntmps41 rfl hown ?_
 simp only [ZV]
 refine Zb<|Za<|gas rfl rfl<|gA<|Zb<|Zb<|Za<|gm rfl rfl<|Zt (Yi [0,1,2] [] rfl (vf:=[]) (vc:=[]) rfl rfl Tryz.call38 (by decide) rfl (fun w how hc=>Zqc f hf bf rb cb rp cp _ w hc) ?_)
 rintro _ _ ⟨rfl,rfl⟩
 refine gA<|Zl rfl<|Zv<|Ze<|Zb<|Za<|gm rfl rfl<|gnc rfl rfl<|gr rfl (Zd rfl (VO _))<|gr rfl (Zi Tryz.underlying65 rfl rfl (by exact Zp 0 rfl rfl)) ?_
 refine gr rfl (ZA Tryz.underlying65 rfl)<|gr rfl (by exact JA (b:=256) rfl rfl (by omega) (by omega)) ?_
 refine gas rfl rfl<|gA<|Zu<|Zy (.inl rfl) Tryz.results41 rfl [0,1,2] (by decide) ?_
 exact ⟨rfl,rfl⟩
theorem begins_ok (f:Fl) (hf:f.Ok) (bf:Nat) (rb:Option Nat) (cb:Nat) (rp:Option Nat) (cp:Nat) (S:List Nat) (w0:World) (hown:Own w0 S w0 (FlH bf rb cb rp cp f)) (at_ many:Int):Sp Tryz.prog 40 [.pointer (some ⟨bf,0,none⟩),.int .i64 at_,.int .i64 many] w0 S (fun v L=>v=.int .i64 (Y1 f at_ many)∧L=FlH bf rb cb rp cp f):=by
 have hbl:=hf.hi
 have hbl0:=hf.lo
 refine ZC Tryz.func40 rfl Tryz.ntmps40 rfl hown ?_
 simp only [ZV]
 refine Zb<|Za<|gas rfl rfl<|gA<|Zb<|ZB<|Zb<|Za<|gm rfl rfl<|Zt (Yi [0,1,2] [] rfl (vf:=[]) (vc:=[]) rfl rfl Tryz.call38 (by decide) rfl (fun w how hc=>Zqc f hf bf rb cb rp cp _ w hc) ?_)
 rintro _ _ ⟨rfl,rfl⟩
 refine gas rfl rfl<|gA<|Zl rfl<|Zb<|Za<|gm rfl rfl<|gr rfl (ZX rfl rfl) (Zw (fun h12=>?_) (fun h12=>?_))
 ·refine gm rfl rfl<|Zj rfl rfl rfl<|Zj rfl rfl rfl<|Zj rfl rfl rfl<|gr rfl (Zq rfl rfl)<|gas rfl rfl<|gA<|Zk rfl<|Zb<|Za<|gas rfl rfl<|gA<|Zu<|Zx<|Zh<|Zy (.inl rfl) Tryz.results40 rfl [0,1,2] (by decide) ?_
  refine ⟨congrArg (Value.int .i64) ?_,rfl⟩
  unfold Y1
  rw [if_pos h12]
 refine gm rfl rfl<|Zg rfl rfl<|Zm rfl (Zo rfl)<|Zg rfl rfl<|Zm rfl (Zo rfl)<|Zg rfl rfl (Zm rfl (Xs rfl rfl) (Zw (fun h16=>?_) (fun h16=>?_)))
 ·refine gr rfl (Zn rfl rfl)<|gas rfl rfl<|gA<|Zk rfl<|Zb<|Za<|gas rfl rfl<|gA<|Zu<|Zx<|Zh<|Zy (.inl rfl) Tryz.results40 rfl [0,1,2] (by decide) ?_
  refine ⟨congrArg (Value.int .i64) ?_,rfl⟩
  unfold Y1
  rw [if_neg h12,if_pos (by omega)]
 refine gr rfl (Zn rfl rfl)<|gas rfl rfl<|gA<|Zl rfl<|Zb<|Za<|gm rfl rfl<|gnc rfl rfl<|gr rfl (Zd rfl (Wv _))<|gr rfl (Zi Tryz.underlying4 rfl rfl (by exact Zp 0 rfl rfl)) ?_
 refine gas rfl rfl<|Z0 (fun h18=>?_) (fun h18=>?_)
 ·refine gA<|Zk rfl<|Zb<|Za<|gas rfl rfl<|gA<|Zu<|Zx<|Zh<|Zy (.inl rfl) Tryz.results40 rfl [0,1,2] (by decide) ?_
  refine ⟨congrArg (Value.int .i64) ?_,rfl⟩
  unfold Y1
  rw [if_neg h12,if_neg (by omega),if_pos h18]
 refine gA<|Zl rfl<|Zv<|ZI<|Ze<|Zb<|Za<|gas rfl rfl<|gA<|Zu<|Zy (.inl rfl) Tryz.results40 rfl [0,1,2] (by decide) ?_
 refine ⟨congrArg (Value.int .i64) ?_,rfl⟩
 unfold Y1
 rw [if_neg h12,if_neg (by omega),if_neg (by rw [h18]; decide)]
theorem Zm3 (f:Fl) (hf:-1≤f.left∧f.left≤9223372036854775807) (bf:Nat) (rb:Option Nat) (cb:Nat) (rp:Option Nat) (cp:Nat) (S:List Nat) (w0:World) (hown:Own w0 S w0 (FlH bf rb cb rp cp f)) :Sp Tryz.prog 42 [.pointer (some ⟨bf,0,none⟩)] w0 S (fun v L=>v=.bool (flFails f).down∧L=FlH bf rb cb rp cp (flFails f)):=by
 have hl0:=hf.1
 have hl1:=hf.2
 refine ZC Tryz.func42 rfl Tryz.ntmps42 rfl hown ?_
 simp only [ZV]
 refine Zb<|Za<|gas rfl rfl<|gA<|Zb<|Za<|gm rfl rfl<|gm rfl rfl<|gnc rfl rfl<|gr rfl (Zd rfl (Zbp _))<|gr rfl (Zi Tryz.underlying3 rfl rfl (by exact Zp 0 rfl rfl)) ?_
 refine gr rfl (Z8 rfl rfl) (Zw (fun h8=>?_) (fun h8=>?_))
 ·have hff:flFails f={ f with down:=true }:=by unfold flFails; rw [if_pos h8]
  refine gnc rfl rfl<|gr rfl (Zd rfl (Wv _))<|Zt (Yc 0 ty_4 rfl rfl rfl rfl rfl (by rfl) (by rfl) ?_)
  refine gA<|Zb<|Zb<|Za<|gm rfl rfl<|gnc rfl rfl<|gr rfl (Zd rfl (Zbp _))<|gr rfl (Zi Tryz.underlying3 rfl rfl (by exact Zp 0 rfl rfl)) ?_
  refine gr rfl (Yk rfl rfl) (Zw (fun h15=>?_) (fun h15=>?_))
  ·exfalso; omega
  refine gA<|Zl rfl<|Zv<|Ze<|Zb<|Za<|gm rfl rfl<|gnc rfl rfl<|gr rfl (Zd rfl (Wv _))<|gr rfl (Zi Tryz.underlying4 rfl rfl (by exact Zp 0 rfl rfl)) ?_
  refine gas rfl rfl<|gA<|Zu<|Zy (.inl rfl) Tryz.results42 rfl [0,1,2] (by decide) ?_
  rw [hff]
  exact ⟨rfl,rfl⟩
 refine gnc rfl rfl<|gr rfl (Zd rfl (Wv _))<|Zt (Yc 0 ty_4 rfl rfl rfl rfl rfl (by rfl) (by rfl) ?_)
 refine gA<|Zb<|Zb<|Za<|gm rfl rfl<|gnc rfl rfl<|gr rfl (Zd rfl (Zbp _))<|gr rfl (Zi Tryz.underlying3 rfl rfl (by exact Zp 0 rfl rfl)) ?_
 refine gr rfl (Yk rfl rfl) (Zw (fun h15=>?_) (fun h15=>?_))
 ·refine gA<|Zk rfl<|Za<|gm rfl rfl<|gnc rfl rfl<|gr rfl (Zd rfl (Zbp _))<|gr rfl (Zi Tryz.underlying3 rfl rfl (by exact Zp 0 rfl rfl)) ?_
  refine gr rfl (WX rfl rfl (by omega) (by omega)) ?_
  refine gnc rfl rfl<|gr rfl (Zd rfl (Zbp _))<|Zt (Yc 0 Y7 rfl rfl rfl rfl rfl (by rfl) (by rfl) ?_)
  refine gA<|Zb<|Za<|gm rfl rfl<|gnc rfl rfl<|gr rfl (Zd rfl (Wv _))<|gr rfl (Zi Tryz.underlying4 rfl rfl (by exact Zp 0 rfl rfl)) ?_
  refine gas rfl rfl<|gA<|Zu<|Zy (.inl rfl) Tryz.results42 rfl [0,1,2] (by decide) ?_
  have hff:flFails f={ f with down:=false,left:=f.left - 1 }:=by unfold flFails; rw [if_neg h8,if_pos h15]
  rw [hff]
  exact ⟨rfl,rfl⟩
 refine gA<|Zl rfl<|Zv<|Ze<|Zb<|Za<|gm rfl rfl<|gnc rfl rfl<|gr rfl (Zd rfl (Wv _))<|gr rfl (Zi Tryz.underlying4 rfl rfl (by exact Zp 0 rfl rfl)) ?_
 refine gas rfl rfl<|gA<|Zu<|Zy (.inl rfl) Tryz.results42 rfl [0,1,2] (by decide) ?_
 have hff:flFails f={ f with down:=false }:=by unfold flFails; rw [if_neg h8,if_neg h15]
 rw [hff]
 exact ⟨rfl,rfl⟩
theorem Zo0 (f:Fl) (hf:f.Ok) (bf:Nat) (rb:Option Nat) (cb:Nat) (rp:Option Nat) (cp:Nat) (S:List Nat) (w0:World) (hown:Own w0 S w0 (FlH bf rb cb rp cp f)) (at_:Int) (u:Nat) (hv:u<256):Sp Tryz.prog 15 [.pointer (some ⟨bf,0,none⟩),.int .i64 at_,.int .u8 u] w0 S (fun v L=>v=.int .i64 (YO f at_ u).2∧L=FlH bf rb cb rp cp (YO f at_ u).1):=by
 have hbl:=hf.hi
 have hbl0:=hf.lo
 have hblm:=hf.len
 have hpr:=hf.pr
 refine ZC Tryz.func15 rfl Tryz.ntmps15 rfl hown ?_
 simp only [ZV]
 refine Zb<|Za<|gas rfl rfl<|gA<|Zb<|Zb<|Za<|gm rfl rfl<|gm rfl rfl<|gm rfl rfl<|Zt (Yi [0,1,2] [] rfl (vf:=[]) (vc:=[]) rfl rfl Tryz.call41 (by decide) rfl (fun w how hc=>Zjq f hf bf rb cb rp cp _ w hc) ?_)
 rintro _ _ ⟨rfl,rfl⟩
 refine gr rfl (by exact XX (b:=256) rfl rfl (by omega)) ?_
 rw [show f.b.length / 256 * 256=f.b.length by omega]
 refine Zt (Yi [0,1,2] [] rfl (vf:=[]) (vc:=[]) rfl rfl Tryz.call40 (by decide) rfl (fun w how hc=>begins_ok f hf bf rb cb rp cp _ w hc at_ f.b.length) ?_)
 rintro _ _ ⟨rfl,rfl⟩
 refine gas rfl rfl<|gA<|Zb<|Za<|gm rfl rfl<|gr rfl (Z4 rfl rfl) (Zw (fun h15=>?_) (fun h15=>?_))
 ·refine gA<|Zk rfl<|Zb<|Za<|gm rfl rfl<|gas rfl rfl<|gA<|Zu<|Zh<|Zy (.inl rfl) Tryz.results15 rfl [0,1,2] (by decide) ?_
  have hp:YO f at_ u=(f,Y1 f at_ f.b.length):=by unfold YO; rw [if_pos h15]
  rw [hp]
  exact ⟨rfl,rfl⟩
 have hbz:Y1 f at_ (f.b.length:Int)=0:=by omega
 obtain ⟨hat0,hat1,hdn⟩:0≤at_∧at_<(f.b.length:Int)∧f.down=false:=by
  unfold Y1 at hbz
  split at hbz
  ·omega
  ·split at hbz
   ·omega
   ·split at hbz
    ·omega
    ·rename_i h1 h2 h3; exact ⟨by omega,by omega,by simpa using h3⟩
 obtain ⟨k,rfl⟩:∃ k:Nat,at_=k:=⟨at_.toNat,by omega⟩
 refine gA<|Zl rfl<|Zv<|Ze<|Zb<|Za<|gm rfl rfl<|gnc rfl rfl<|gr rfl (Zd rfl (Zmh _))<|gr rfl (Zi Tryz.underlying3 rfl rfl (by exact Zp 0 rfl rfl)) ?_
 refine gr rfl (by exact ZL (b:=1) rfl rfl (by omega)) ?_
 refine gnc rfl rfl<|gr rfl (Zd rfl (Zmh _))<|Zt (Yc 0 Y7 rfl rfl rfl rfl rfl (by rfl) (by rfl) ?_)
 refine gA<|Zb<|Zb<|Za<|gm rfl rfl<|Zt (Yi [0,1,2] [] rfl (vf:=[]) (vc:=[]) rfl rfl Tryz.call42 (by decide) rfl (fun w how hc=>Zm3 { f with pr:=f.pr+1 } ⟨hf.l0,hf.l1⟩ bf rb cb rp cp _ w hc) ?_)
 rintro _ _ ⟨rfl,rfl⟩
 obtain ⟨g,hg⟩:∃ g,flFails { f with pr:=f.pr+1 }=g:=⟨_,rfl⟩
 have hgb:g.b=f.b:=by rw [← hg,Zjp]
 have hgp:g.picks=f.picks:=by rw [← hg,VI]
 have hgl:g.b.length=f.b.length:=by rw [hgb]
 have hgpl:g.picks.length=f.picks.length:=by rw [hgp]
 rw [hg]
 refine Z0 (fun hfd=>?_) (fun hfd=>?_)
 ·have hgbs:∀ z∈g.b,z<256:=by rw [hgb]; exact hf.bs
  have hgps:∀ z∈g.picks,z<256:=by rw [hgp]; exact hf.ps
  refine gr rfl (rd_not rfl)<|gA<|Zl rfl<|Zv<|Ze<|Zb<|Zb<|Za<|gm rfl rfl<|gnc rfl rfl<|gr rfl (Zd rfl (Zbq _))<|gr rfl (Zi Tryz.underlying65 rfl rfl (by exact Zp 0 rfl rfl)) ?_
  refine gr rfl (ZA Tryz.underlying65 rfl)<|gr rfl (Yk rfl rfl) (Zw (fun h42=>?_) (fun h42=>?_))
  ·refine gA<|Zk rfl<|Za<|gm rfl rfl<|gm rfl rfl<|gnc rfl rfl<|gr rfl (Zd rfl (Zbq _))<|gr rfl (Zi Tryz.underlying65 rfl rfl (by exact Zp 0 rfl rfl)) ?_
   refine gr rfl (Ys 2 rfl Tryz.underlying65 YJ rfl rfl (by omega) (by omega)) ?_
   refine gr rfl (Zi Tryz.underlying5 rfl rfl (WU 2 rfl (XY (Vw (show 0<g.picks.length by omega))))) ?_
   refine gr rfl (Zep rfl rfl (by exact hv) (by exact X4 hgps 0)) ?_
   refine gas rfl rfl<|gA<|Zb<|Za<|gm rfl rfl<|gnc rfl rfl<|gr rfl (Zd rfl (VO _))<|gr rfl (Zi Tryz.underlying65 rfl rfl (by exact Zp 0 rfl rfl)) ?_
   refine gm rfl rfl<|gr rfl (Ys 1 rfl Tryz.underlying65 YJ rfl rfl (by omega) (by omega)) ?_
   refine gr rfl (Zi Tryz.underlying5 rfl rfl (WU 1 rfl (XY (Vw (show k<g.b.length by omega))))) ?_
   refine gm rfl rfl<|gr rfl (Zdi rfl rfl (by exact X4 hgbs k) (by exact Nat.or_lt_two_pow (n:=8) hv (X4 hgps 0))) ?_
   refine gr rfl (Ys 1 rfl Tryz.underlying65 YJ rfl rfl (by omega) (by omega)) ?_
   refine Zt (YB 1 YJ rfl rfl rfl rfl (by simp; omega) (JK g.b k _) (by rfl) ?_)
   refine gA<|Zb<|Za<|gas rfl rfl<|gA<|Zu<|Zy (.inl rfl) Tryz.results15 rfl [0,1,2] (by decide) ?_
   have hp:YO f (k:Int) u=Wq f k u:=by unfold YO; rw [if_neg (by omega),Int.toNat_natCast]
   have hp1:Wq f k u=({ g with b:=g.b.set k (gB g.b k &&& (u ||| gB g.picks 0)) },9):=by unfold Wq; rw [hg,if_neg (by rw [hfd]; decide),if_pos (show 0<f.picks.length by omega),← hgb,← hgp]
   rw [hp,hp1]
   exact ⟨rfl,by simp only [pick,FlH,Fl.cells,List.length_set]; rfl⟩
  refine gA<|Zl rfl<|Zv<|Ze<|Zb<|Za<|gm rfl rfl<|gnc rfl rfl<|gr rfl (Zd rfl (VO _))<|gr rfl (Zi Tryz.underlying65 rfl rfl (by exact Zp 0 rfl rfl)) ?_
  refine gm rfl rfl<|gr rfl (Ys 1 rfl Tryz.underlying65 YJ rfl rfl (by omega) (by omega)) ?_
  refine gr rfl (Zi Tryz.underlying5 rfl rfl (WU 1 rfl (XY (Vw (show k<g.b.length by omega))))) ?_
  refine gm rfl rfl<|gr rfl (Zdi rfl rfl (by exact X4 hgbs k) (by exact hv)) ?_
  refine gr rfl (Ys 1 rfl Tryz.underlying65 YJ rfl rfl (by omega) (by omega)) ?_
  refine Zt (YB 1 YJ rfl rfl rfl rfl (by simp; omega) (JK g.b k _) (by rfl) ?_)
  refine gA<|Zb<|Za<|gas rfl rfl<|gA<|Zu<|Zy (.inl rfl) Tryz.results15 rfl [0,1,2] (by decide) ?_
  have hp:YO f (k:Int) u=Wq f k u:=by unfold YO; rw [if_neg (by omega),Int.toNat_natCast]
  have hp1:Wq f k u=({ g with b:=g.b.set k (gB g.b k &&& u) },9):=by unfold Wq; rw [hg,if_neg (by rw [hfd]; decide),if_neg (show ¬ 0<f.picks.length by omega),← hgb]
  rw [hp,hp1]
  exact ⟨rfl,by simp only [pick,FlH,Fl.cells,List.length_set]; rfl⟩
 have hgbs:∀ z∈g.b,z<256:=by rw [hgb]; exact hf.bs
 have hgps:∀ z∈g.picks,z<256:=by rw [hgp]; exact hf.ps
 refine gr rfl (rd_not rfl)<|gA<|Zk rfl<|Zb<|Za<|gm rfl rfl<|gnc rfl rfl<|gr rfl (Zd rfl (VO _))<|gr rfl (Zi Tryz.underlying65 rfl rfl (by exact Zp 0 rfl rfl)) ?_
 refine gm rfl rfl<|gr rfl (Ys 1 rfl Tryz.underlying65 YJ rfl rfl (by omega) (by omega)) ?_
 refine gr rfl (Zi Tryz.underlying5 rfl rfl (WU 1 rfl (XY (Vw (show k<g.b.length by omega))))) ?_
 refine gm rfl rfl<|gr rfl (Zdi rfl rfl (by exact X4 hgbs k) (by exact hv)) ?_
 refine gr rfl (Ys 1 rfl Tryz.underlying65 YJ rfl rfl (by omega) (by omega)) ?_
 refine Zt (YB 1 YJ rfl rfl rfl rfl (by simp; omega) (JK g.b k _) (by rfl) ?_)
 refine gA<|Zb<|Za<|gas rfl rfl<|gA<|Zu<|Zh<|Zy (.inl rfl) Tryz.results15 rfl [0,1,2] (by decide) ?_
 have hp:YO f (k:Int) u=Wq f k u:=by unfold YO; rw [if_neg (by omega),Int.toNat_natCast]
 have hp1:Wq f k u=({ g with b:=g.b.set k (gB g.b k &&& u) },0):=by unfold Wq; rw [hg,if_pos (by rw [hfd]; rfl),← hgb]
 rw [hp,hp1]
 exact ⟨rfl,by simp only [pick,FlH,Fl.cells,List.length_set]; rfl⟩
namespace Iv
theorem Zcj (p b:List Nat) (o n:Nat):orTo p b o (n+1)=(orTo p b o n).set (o+n) (gB (orTo p b o n) (o+n) ||| gB p (n % p.length)):=by
 unfold orTo; rw [List.range_succ,List.foldl_append]; rfl
theorem J9 (p b:List Nat) (o:Nat):∀ n,(orTo p b o n).length=b.length
  | 0=>rfl
  | n+1=>by rw [Zcj,List.length_set,J9 p b o n]
theorem Zbx {b:List Nat} {k z:Nat} (h:∀ x∈b,x<256) (hz:z<256):∀ x∈b.set k z,x<256:=fun x hx=>by
 rcases List.mem_or_eq_of_mem_set hx with h1 | h1
 ·exact h x h1
 ·omega
theorem Zgl {p b:List Nat} (hb:∀ z∈b,z<256) (hp:∀ z∈p,z<256) (o:Nat):∀ n,∀ z∈orTo p b o n,z<256
  | 0=>hb
  | n+1=>by
    rw [Zcj]
    exact Zbx (Zgl hb hp o n) (Nat.or_lt_two_pow (n:=8) (X4 (Zgl hb hp o n) _) (X4 hp _))
end Iv
theorem Zm4 (f:Fl) (hf:f.Ok) (bf:Nat) (rb:Option Nat) (cb:Nat) (rp:Option Nat) (cp:Nat) (S:List Nat) (w0:World) (hown:Own w0 S w0 (FlH bf rb cb rp cp f)) (at_:Int):Sp Tryz.prog 72 [.pointer (some ⟨bf,0,none⟩),.int .i64 at_] w0 S (fun v L=>v=.int .i64 (Yy f at_).2∧L=FlH bf rb cb rp cp (Yy f at_).1):=by
 have hbl:=hf.hi
 have hbl0:=hf.lo
 have hblm:=hf.len
 have hpr:=hf.pr
 have her:=hf.er
 have hpl:=hf.pl
 obtain ⟨gb,rfl,hcb⟩:=Zbw (hown.holds (.row 5 1 rb f.b.length cb (f.b.map u8V)) (by simp)) (by omega)
 refine ZC Tryz.func72 rfl Tryz.ntmps72 rfl hown ?_
 simp only [ZV]
 refine Zb<|Za<|gas rfl rfl<|gA<|Zb<|Zb<|Za<|gm rfl rfl<|gm rfl rfl<|gm rfl rfl<|Zt (Yi [0,1,2] [] rfl (vf:=[]) (vc:=[]) rfl rfl Tryz.call41 (by decide) rfl (fun w how hc=>Zjq f hf bf (some gb) cb rp cp _ w hc) ?_)
 rintro _ _ ⟨rfl,rfl⟩
 refine Zt (Yi [0,1,2] [] rfl (vf:=[]) (vc:=[]) rfl rfl Tryz.call40 (by decide) rfl (fun w how hc=>begins_ok f hf bf (some gb) cb rp cp _ w hc at_ (f.b.length / 256:Nat)) ?_)
 rintro _ _ ⟨rfl,rfl⟩
 refine gas rfl rfl<|gA<|Zb<|Za<|gm rfl rfl<|gr rfl (Z4 rfl rfl) (Zw (fun h14=>?_) (fun h14=>?_))
 ·refine gA<|Zk rfl<|Zb<|Za<|gm rfl rfl<|gas rfl rfl<|gA<|Zu<|Zh<|Zy (.inl rfl) Tryz.results72 rfl [0,1,2] (by decide) ?_
  have hp:Yy f at_=(f,Y1 f at_ (f.b.length / 256:Nat)):=by unfold Yy; rw [if_pos h14]
  rw [hp]
  exact ⟨rfl,rfl⟩
 have hbz:Y1 f at_ ((f.b.length / 256:Nat):Int)=0:=by omega
 obtain ⟨hat0,hat1,hdn⟩:0≤at_∧at_<((f.b.length / 256:Nat):Int)∧f.down=false:=by
  unfold Y1 at hbz
  split at hbz
  ·omega
  ·split at hbz
   ·omega
   ·split at hbz
    ·omega
    ·rename_i h1 h2 h3; exact ⟨by omega,by omega,by simpa using h3⟩
 obtain ⟨k,rfl⟩:∃ k:Nat,at_=k:=⟨at_.toNat,by omega⟩
 refine gA<|Zl rfl<|Zv<|Ze<|Zb<|Za<|gm rfl rfl<|gnc rfl rfl<|gr rfl (Zd rfl (Zmi _))<|gr rfl (Zi Tryz.underlying3 rfl rfl (by exact Zp 0 rfl rfl)) ?_
 refine gr rfl (by exact ZL (b:=1) rfl rfl (by omega)) ?_
 refine gnc rfl rfl<|gr rfl (Zd rfl (Zmi _))<|Zt (Yc 0 Y7 rfl rfl rfl rfl rfl (by rfl) (by rfl) ?_)
 refine gA<|Zb<|Za<|gm rfl rfl<|gnc rfl rfl<|gr rfl (Zd rfl (VO _))<|gr rfl (Zi Tryz.underlying65 rfl rfl (by exact Zp 0 rfl rfl)) ?_
 refine gm rfl rfl<|gr rfl (by exact XX (b:=256) rfl rfl (by omega)) ?_
 refine gm rfl rfl<|gr rfl (by exact ZL (b:=1) rfl rfl (by omega)) ?_
 refine gr rfl (by exact XX (b:=256) rfl rfl (by omega)) ?_
 refine gr rfl (J3 Tryz.underlying65 YJ rfl rfl rfl (by omega) (by omega) (by omega)) ?_
 refine gas rfl rfl<|gA<|Zb<|Zb ?_
 simp only [Int.toNat_natCast]
 rw [Ze3 (show k * 256<cb by omega),show (k+1) * 256 - k * 256=256 by omega]
 refine Za<|gm rfl rfl<|Zt (Yi [0,1,2] [] rfl (vf:=[]) (vc:=[]) rfl rfl Tryz.call42 (by decide) rfl (fun w how hc=>Zm3 { f with er:=f.er+1 } ⟨hf.l0,hf.l1⟩ bf (some gb) cb rp cp _ w hc) ?_)
 rintro _ _ ⟨rfl,rfl⟩
 obtain ⟨g,hg⟩:∃ g,flFails { f with er:=f.er+1 }=g:=⟨_,rfl⟩
 have hgb:g.b=f.b:=by rw [← hg,Zjp]
 have hgp:g.picks=f.picks:=by rw [← hg,VI]
 have hgl:g.b.length=f.b.length:=by rw [hgb]
 have hgpl:g.picks.length=f.picks.length:=by rw [hgp]
 rw [hg]
 refine Z0 (fun hfd=>?_) (fun hfd=>?_)
 ·have hgbs:∀ z∈g.b,z<256:=by rw [hgb]; exact hf.bs
  have hgps:∀ z∈g.picks,z<256:=by rw [hgp]; exact hf.ps
  refine gr rfl (rd_not rfl)<|gm rfl rfl<|Zg rfl rfl<|Zm rfl (Zo rfl)<|Zg rfl rfl<|Zm rfl (ZN rfl)<|Zg rfl rfl<|Zm rfl (Zd rfl (Zbq _))<|Zg rfl rfl (Zm rfl (Zi Tryz.underlying65 rfl rfl (by exact Zp 0 rfl rfl)) ?_)
  refine Zg rfl rfl<|Zm rfl (ZA Tryz.underlying65 rfl)<|Zg rfl rfl (Zm rfl (Z8 rfl rfl) (Zw (fun h42=>?_) (fun h42=>?_)))
  ·refine gr rfl (Zn rfl rfl)<|gA<|Zk rfl<|Za<|gm rfl rfl<|Zt (ZQ (sz:=1) rfl rfl (fun _=>J7 _) rfl rfl (fun b45=>?_))
   refine gm rfl rfl<|gr rfl (ZA Tryz.underlying65 rfl)<|Zt (ZJ rfl (vf:=[]) (vc:=[]) rfl rfl Tryz.call76 (fun w2 ho=>J8 255 256 (rowA (some b45)) 1 w2 (ho.rowSl 0 rfl) (by omega)) ?_)
   rintro _ _ ⟨rr,cr,rfl,rfl⟩
   have hcs:(((List.replicate 256 255).map u8V).drop 0).take 256=(List.replicate 256 255).map u8V:=by rw [List.drop_zero,List.take_of_length_le (by simp)]
   refine Zt (WY 3 (k * 256) (cs:=(List.replicate 256 255).map u8V) Tryz.underlying65 YJ rfl rfl rfl rfl (by simp) (Zek 0 (a:=some rr) rfl hcs) (by simp; omega) (Zkt _) (by rfl) ?_)
   rw [Zoz,List.length_replicate]
   refine gA<|Zb<|Zb<|Za<|gm rfl rfl<|gnc rfl rfl<|gr rfl (Zd rfl (Wv _))<|gr rfl (Zi Tryz.underlying4 rfl rfl (by exact Zp 2 rfl rfl)) ?_
   refine Z0 (fun h78=>?_) (fun h78=>?_)
   ·refine gA<|Zk rfl<|Zb<|Za<|gas rfl rfl<|gA<|Zu<|Zh<|Zy (.inl rfl) Tryz.results72 rfl [2,3,4] (by decide) ?_
    have hp:Yy f (k:Int)=Xv f k:=by unfold Yy; rw [if_neg (by omega),Int.toNat_natCast]
    have hp1:Xv f k=({ g with b:=g.b.take (k * 256)++List.replicate 256 255++g.b.drop (k * 256+256) },9):=by unfold Xv; rw [hg,if_pos (by rw [decide_eq_true (show f.picks.length=0 by omega),Bool.or_true]),if_pos hfd,← hgb]
    have hlen:(g.b.take (k * 256)++List.replicate 256 255++g.b.drop (k * 256+256)).length=g.b.length:=by simp; omega
    obtain ⟨B,hB⟩:∃ B,g.b.take (k * 256)++List.replicate 256 255++g.b.drop (k * 256+256)=B:=⟨_,rfl⟩
    rw [hB] at hp1 hlen
    rw [hp,hp1]
    rw [hB]
    exact ⟨rfl,by simp only [pick,FlH,Fl.cells,hlen]; rfl⟩
   rw [hfd] at h78; cases h78
  refine gr rfl (Zn rfl rfl)<|gA<|Zl rfl<|Zb<|Za<|gm rfl rfl<|gr rfl (ZA Tryz.underlying65 rfl)<|gm rfl rfl<|gA<|ZB<|ZZ (ι:=Nat) [(0,_),(6,_),(51,_)] [_,_] (fun j=>j≤256) (fun j Fr0=>((52,natV j)::Fr0)) (fun j Fr0=>(.row 5 1 (some gb) g.b.length cb ((orTo g.picks g.b (k * 256) j).map u8V)::Fr0)) (fun j=>256 - j) 0 (Nat.zero_le _) ⟨rfl,rfl,rfl,rfl,trivial⟩ ⟨[1,0,2],by decide,rfl⟩ ?_
  rintro j hj
  obtain ⟨bj,hbj⟩:∃ bj,orTo g.picks g.b (k * 256) j=bj:=⟨_,rfl⟩
  have hbjl:bj.length=g.b.length:=by rw [← hbj,J9]
  have hbjs:∀ z∈bj,z<256:=by rw [← hbj]; exact Zgl hgbs hgps _ _
  rw [hbj]
  refine Zb<|Za<|gr rfl (ZX rfl rfl) (Zw (fun h53=>?_) (fun h53=>?_))
  ·have hjm:j % g.picks.length<g.picks.length:=Nat.mod_lt _ (by omega)
   refine gA<|Zb<|Zk rfl<|Zv<|Ze<|Zb<|ZB<|Zb<|Za<|gm rfl rfl<|gas rfl rfl<|gA<|ZO [1,2] false 19 rfl<|Zc 0 rfl rfl ⟨[1,2],by decide,rfl⟩ (Zf (Zo rfl)) ?_
   refine Zc 1 rfl rfl ⟨[1,2],by decide,rfl⟩ (Zf (Zo rfl)) ?_
   refine Zc 2 rfl rfl ⟨[1,2],by decide,rfl⟩ (Zf (Zel Tryz.underlying65 YJ rfl rfl (by omega) (by omega))) ?_
   refine Zc 4 rfl rfl ⟨[1,2],by decide,rfl⟩ (Zf (Zo rfl)) ?_
   refine Zc 5 rfl rfl ⟨[1,2],by decide,rfl⟩ (Zf (ZN rfl)) ?_
   refine Zc 6 rfl rfl ⟨[1,2],by decide,rfl⟩ (Zf (Zd rfl (Zbq _))) ?_
   refine Zc 7 rfl rfl ⟨[1,2],by decide,rfl⟩ (Zf (Zi Tryz.underlying65 rfl rfl (by exact Zp 0 rfl rfl))) ?_
   refine Zc 8 rfl rfl ⟨[1,2],by decide,rfl⟩ (Zf (Zo rfl)) ?_
   refine Zc 9 rfl rfl ⟨[1,2],by decide,rfl⟩ (Zf (Zo rfl)) ?_
   refine Zc 10 rfl rfl ⟨[1,2],by decide,rfl⟩ (Zf (ZN rfl)) ?_
   refine Zc 11 rfl rfl ⟨[1,2],by decide,rfl⟩ (Zf (Zd rfl (Zbq _))) ?_
   refine Zc 12 rfl rfl ⟨[1,2],by decide,rfl⟩ (Zf (Zi Tryz.underlying65 rfl rfl (by exact Zp 0 rfl rfl))) ?_
   refine Zc 13 rfl rfl ⟨[1,2],by decide,rfl⟩ (Zf (ZA Tryz.underlying65 rfl)) ?_
   refine Zc 14 rfl rfl ⟨[1,2],by decide,rfl⟩ (Zf (by exact Vb rfl rfl (by omega))) ?_
   refine Zc 15 rfl rfl ⟨[1,2],by decide,rfl⟩ (Zf (Ys 1 rfl Tryz.underlying65 YJ rfl rfl (by omega) (by omega))) ?_
   refine Zc 16 rfl rfl ⟨[1,2],by decide,rfl⟩ (Zf (Zi Tryz.underlying5 rfl rfl (WU 1 rfl (XY (Vw (show (j % g.picks.length)<g.picks.length by omega)))))) ?_
   rw [show (⟨gb,k * 256,none⟩:Addr).add (j:Int).toNat=⟨gb,k * 256+j,none⟩ by rw [Addr.add_lit,Int.toNat_natCast]]
   refine ZK 3 rfl (.inr ⟨[1,2],by decide,rfl⟩) (Zm rfl (Zi Tryz.underlying5 rfl rfl (ld_row 0 (a:=some gb) (off:=k * 256+j) rfl (XY (Vw (show k * 256+j<bj.length by omega))))) ?_)
   refine Zc 17 rfl rfl ⟨[1,2],by decide,rfl⟩ (Zf (Zep rfl rfl (by exact X4 hbjs _) (by exact X4 hgps _))) ?_
   refine Zc 18 rfl rfl ⟨[1,2],by decide,rfl⟩ (Zf (Zel Tryz.underlying65 YJ rfl rfl (by omega) (by omega))) ?_
   rw [show (⟨gb,k * 256,none⟩:Addr).add (j:Int).toNat=⟨gb,k * 256+j,none⟩ by rw [Addr.add_lit,Int.toNat_natCast]]
   refine ZK 19 rfl (.inr ⟨[1,2],by decide,rfl⟩) (YB 0 YJ rfl rfl rfl rfl (by simp; omega) (JK bj (k * 256+j) _) (by rfl) ?_)
   refine ZP (.inl (by kernel_rfl)) ?_
   refine ZI<|Ze ?_
   rw [show bj.set (k * 256+j) (gB bj (k * 256+j) ||| gB g.picks (j % g.picks.length))=orTo g.picks g.b (k * 256) (j+1) by rw [Zcj,hbj]]
   refine Za<|gr rfl (by exact ZL (b:=1) rfl rfl (by omega)) ?_
   refine gm rfl rfl<|ZM<|Ze ?_
   exact ZR (j+1) ⟨by omega,by omega⟩ ⟨rfl,rfl,rfl,rfl,trivial⟩ ⟨[0,1,2],by decide,rfl⟩
  refine gA<|Zb<|Zl rfl<|Z1<|Zs<|Zs<|ZE<|Ze<|Zb<|Zb<|Za<|gm rfl rfl<|gnc rfl rfl<|gr rfl (Zd rfl (Wv _))<|gr rfl (Zi Tryz.underlying4 rfl rfl (by exact Zp 1 rfl rfl)) ?_
  refine Z0 (fun h78=>?_) (fun h78=>?_)
  ·refine gA<|Zk rfl<|Zb<|Za<|gas rfl rfl<|gA<|Zu<|Zh<|Zy (.inl rfl) Tryz.results72 rfl [1,0,2] (by decide) ?_
   have hp:Yy f (k:Int)=Xv f k:=by unfold Yy; rw [if_neg (by omega),Int.toNat_natCast]
   have hp1:Xv f k=({ g with b:=orTo g.picks g.b (k * 256) 256 },9):=by unfold Xv; rw [hg,if_neg (by rw [hfd,decide_eq_false (show ¬ f.picks.length=0 by omega)]; decide),if_pos hfd,← hgb,← hgp]
   have hlen:(orTo g.picks g.b (k * 256) 256).length=g.b.length:=by rw [J9]
   obtain ⟨B,hB⟩:∃ B,orTo g.picks g.b (k * 256) 256=B:=⟨_,rfl⟩
   rw [hB] at hp1 hlen
   rw [hp,hp1]
   have hjB:bj=B:=by rw [← hbj,← hB,show j=256 by omega]
   rw [hjB]
   exact ⟨rfl,by simp only [pick,FlH,Fl.cells,hlen]; rfl⟩
  rw [hfd] at h78; cases h78
 have hgbs:∀ z∈g.b,z<256:=by rw [hgb]; exact hf.bs
 have hgps:∀ z∈g.picks,z<256:=by rw [hgp]; exact hf.ps
 refine gr rfl (rd_not rfl)<|gm rfl rfl<|Zj rfl rfl rfl<|Zj rfl rfl rfl<|Zj rfl rfl rfl<|Zj rfl rfl rfl<|Zj rfl rfl rfl<|Zj rfl rfl rfl<|gr rfl (Zq rfl rfl)<|gA<|Zk rfl<|Za<|gm rfl rfl<|Zt (ZQ (sz:=1) rfl rfl (fun _=>J7 _) rfl rfl (fun b45=>?_))
 refine gm rfl rfl<|gr rfl (ZA Tryz.underlying65 rfl)<|Zt (ZJ rfl (vf:=[]) (vc:=[]) rfl rfl Tryz.call76 (fun w2 ho=>J8 255 256 (rowA (some b45)) 1 w2 (ho.rowSl 0 rfl) (by omega)) ?_)
 rintro _ _ ⟨rr,cr,rfl,rfl⟩
 have hcs:(((List.replicate 256 255).map u8V).drop 0).take 256=(List.replicate 256 255).map u8V:=by rw [List.drop_zero,List.take_of_length_le (by simp)]
 refine Zt (WY 3 (k * 256) (cs:=(List.replicate 256 255).map u8V) Tryz.underlying65 YJ rfl rfl rfl rfl (by simp) (Zek 0 (a:=some rr) rfl hcs) (by simp; omega) (Zkt _) (by rfl) ?_)
 rw [Zoz,List.length_replicate]
 refine gA<|Zb<|Zb<|Za<|gm rfl rfl<|gnc rfl rfl<|gr rfl (Zd rfl (Wv _))<|gr rfl (Zi Tryz.underlying4 rfl rfl (by exact Zp 2 rfl rfl)) ?_
 refine Z0 (fun h78=>?_) (fun h78=>?_)
 ·rw [hfd] at h78; cases h78
 refine gA<|Zl rfl<|Zv<|Ze<|Zb<|Za<|gas rfl rfl<|gA<|Zu<|Zy (.inl rfl) Tryz.results72 rfl [2,3,4] (by decide) ?_
 have hp:Yy f (k:Int)=Xv f k:=by unfold Yy; rw [if_neg (by omega),Int.toNat_natCast]
 have hp1:Xv f k=({ g with b:=g.b.take (k * 256)++List.replicate 256 255++g.b.drop (k * 256+256) },0):=by unfold Xv; rw [hg,if_pos (by rw [hfd]; rfl),if_neg (by rw [hfd]; decide),← hgb]
 have hlen:(g.b.take (k * 256)++List.replicate 256 255++g.b.drop (k * 256+256)).length=g.b.length:=by simp; omega
 obtain ⟨B,hB⟩:∃ B,g.b.take (k * 256)++List.replicate 256 255++g.b.drop (k * 256+256)=B:=⟨_,rfl⟩
 rw [hB] at hp1 hlen
 rw [hp,hp1]
 rw [hB]
 exact ⟨rfl,by simp only [pick,FlH,Fl.cells,hlen]; rfl⟩
namespace Iv
section
variable {dm:List Deferred} {P:Program} {n:Nat} {e:Env} {w0:World} {S:List Nat} {l:List HL} {dst:Option Tmp} {ty:TypeId} {pos:String} {aft:Array Edge} {gd:Option (Nat × Bool)} {x y:Operand} {t:TypeId}
end
def pop8 : ByteArray:=⟨(([0,1,1,2,1,2,2,3,1,2,2,3,2,3,3,4,1,2,2,3,2,3,3,4,2,3,3,4,3,4,4,5,1,2,2,3,2,3,3,4,2,3,3,4,3,4,4,5,2,3,3,4,3,4,4,5,3,4,4,5,4,5,5,6]++[1,2,2,3,2,3,3,4,2,3,3,4,3,4,4,5,2,3,3,4,3,4,4,5,3,4,4,5,4,5,5,6,2,3,3,4,3,4,4,5,3,4,4,5,4,5,5,6,3,4,4,5,4,5,5,6,4,5,5,6,5,6,6,7])++([1,2,2,3,2,3,3,4,2,3,3,4,3,4,4,5,2,3,3,4,3,4,4,5,3,4,4,5,4,5,5,6,2,3,3,4,3,4,4,5,3,4,4,5,4,5,5,6,3,4,4,5,4,5,5,6,4,5,5,6,5,6,6,7]++[2,3,3,4,3,4,4,5,3,4,4,5,4,5,5,6,3,4,4,5,4,5,5,6,4,5,5,6,5,6,6,7,3,4,4,5,4,5,5,6,4,5,5,6,5,6,6,7,4,5,5,6,5,6,6,7,5,6,6,7,6,7,7,8]):List UInt8).toArray⟩
def pc8 (z:Nat):Nat:=z % 2+z / 2 % 2+z / 4 % 2+z / 8 % 2+z / 16 % 2+z / 32 % 2+z / 64 % 2+z / 128 % 2
theorem pop8_at : ∀ z:Fin 256,pop8[z.val]? = some (UInt8.ofNat (pc8 z.val)):=by decide +kernel
theorem Zc0 (z:Nat):pc8 z≤8:=by unfold pc8; omega
theorem Zhu (z:Nat):(UInt8.ofNat (pc8 z)).toNat=pc8 z:=by
 have:=Zc0 z
 simp; omega
def Yw : List Nat→Nat
  | []=>0
  | z::zs=>(8 - pc8 z)+Yw zs
theorem Zby : ∀ zs:List Nat,Yw zs≤8 * zs.length
  | []=>Nat.le_refl _
  | z::zs=>by have:=Zby zs; simp only [Yw,List.length_cons]; omega
theorem Zjr : ∀ xs ys:List Nat,Yw (xs++ys)=Yw xs+Yw ys
  | [],ys=>by simp [Yw]
  | x::xs,ys=>by rw [List.cons_append,Yw,Zjr xs ys,Yw]; omega
theorem Zo1 {zs:List Nat} {k z:Nat} (h:zs[k]? = some z):Yw (zs.take (k+1))=Yw (zs.take k)+(8 - pc8 z):=by
 rw [take_at h,Zjr]; simp [Yw]
theorem Zc1 {w:World} {S:List Nat} {g m:Nat} {cells:List Value} (h:OldSl w S (some ⟨g,0,none⟩) m 1 cells) (off n:Nat) (hn:off+n≤m):OldSl w S (some ⟨g,off,none⟩) n 1 ((cells.drop off).take n):=by
 have hl:=h.len
 refine ⟨by simp; omega,fun _=>rfl,fun j v hv=>?_,fun h0=>h.out (by omega)⟩
 rw [List.getElem?_take] at hv
 split at hv
 ·rw [List.getElem?_drop] at hv
  have:=h.cells (off+j) v hv
  simp only [adr,Option.getD_some] at this ⊢
  rw [Addr.add_lit] at this ⊢
  rw [Nat.zero_add] at this
  exact this
 ·cases hv
theorem JL (b:List Nat) (o n:Nat):((b.map u8V).drop o).take n=((b.drop o).take n).map u8V:=by simp
def flNew (zs:List Nat):Fl:=⟨zs,-1,[],false,0,0,0⟩
def goodLen (n:Nat):Prop:=n % 256=0∧1024≤n∧n≤16384
end Iv
theorem Ones_ok (z:Nat) (hz:z<256) (w0:World):Sp Tryz.prog 142 [u8V z] w0 [] (RV (natV (pc8 z))):=by
 refine ZC Tryz.func142 rfl Tryz.ntmps142 rfl (Own.refl _) ?_
 simp only [ZV]
 refine Zb<|Za<|gas rfl rfl<|gA<|Zb<|Za<|gm rfl rfl<|gr rfl (W4 (s:=pop8) (i:=z) Tryz.underlying9 rfl rfl (show pop8[z]? = some (UInt8.ofNat (pc8 z)) from pop8_at ⟨z,hz⟩))<|gr rfl (Xb Tryz.runUnderlying5 Tryz.runUnderlying3 rfl (Wy (by omega) (by have:=Zc0 z; rw [Zhu]; omega))) ?_
 refine gas rfl rfl<|gA<|Zu<|Zy (.inl rfl) Tryz.results142 rfl [] (by decide) ?_
 exact ⟨by rw [Zhu],rfl⟩
theorem Zm5 (zs:List Nat) (hz:∀ z∈zs,z<256) (a:Option Addr) (ca:Nat) (w0:World) (hsl:OldSl w0 [] a zs.length 1 (zs.map u8V)) (hn:zs.length≤1000000):Sp Tryz.prog 124 [.slice a zs.length ca] w0 [] (RV (natV (Yw zs))):=by
 refine ZC Tryz.func124 rfl Tryz.ntmps124 rfl (Own.refl _) ?_
 simp only [ZV]
 refine Zb<|Za<|gas rfl rfl<|gA<|Zb<|Zb<|Za<|gm rfl rfl<|gr rfl (ZA Tryz.underlying65 rfl)<|gm rfl rfl<|gA<|ZB<|ZZ (ι:=Nat) [(5,_),(6,_)] [] (fun j=>j≤zs.length) (fun j Fr0=>((7,natV j)::(2,natV (Yw (zs.take j)))::Fr0)) (fun j Fr0=>Fr0) (fun j=>zs.length - j) 0 (Nat.zero_le _) ⟨rfl,rfl,rfl,rfl,trivial⟩ ⟨[],by decide,rfl⟩ ?_
 rintro j hj
 refine Zb<|Za<|gr rfl (ZX rfl rfl) (Zw (fun h8=>?_) (fun h8=>?_))
 ·obtain ⟨z,hzz⟩:=get_some (show j<zs.length by omega)
  have hz8:=hz z (List.mem_of_getElem? hzz)
  have hp8:=Zc0 z
  have hzl:=Zby (zs.take j)
  rw [List.length_take] at hzl
  refine gA<|Zb<|Zk rfl<|Zv<|Ze<|Zb<|ZB<|Zb<|Za<|gr rfl (Z9 hsl Tryz.underlying65 YJ rfl rfl (by omega) (by omega)) ?_
  refine gr rfl (Zi Tryz.underlying5 rfl rfl (YX hsl (XY hzz)))<|gas rfl rfl<|gA<|Za<|gm rfl rfl<|gm rfl rfl<|Zt (ZJ rfl (vf:=[]) (vc:=[]) rfl rfl Tryz.call142 (fun w1 ho=>Ones_ok z hz8 w1) ?_)
  rintro _ _ ⟨rfl,rfl⟩
  refine gr rfl (by exact Jz (a:=8) rfl rfl (by omega) (by omega)) ?_
  refine gr rfl (by exact ZL rfl rfl (by omega)) ?_
  refine gas rfl rfl<|ZM<|ZI<|Ze ?_
  rw [← Zo1 hzz]
  refine Za<|gr rfl (by exact ZL (b:=1) rfl rfl (by omega)) ?_
  refine gm rfl rfl<|ZM<|Ze ?_
  exact ZR (j+1) ⟨by omega,by omega⟩ ⟨rfl,rfl,rfl,rfl,trivial⟩ ⟨[],by decide,rfl⟩
 refine gA<|Zb<|Zl rfl<|Z1<|Zs<|Zs<|ZE<|Ze<|Zb<|Za<|gm rfl rfl<|gas rfl rfl<|gA<|Zu<|Zy (.inl rfl) Tryz.results124 rfl [] (by decide) ?_
 exact ⟨by rw [show j=zs.length by omega,List.take_length],rfl⟩
theorem Zm6 (zs:List Nat) (hz:∀ z∈zs,z<256) (a:Option Addr) (ca:Nat) (w0:World) (hsl:OldSl w0 [] a zs.length 1 (zs.map u8V)) (hn:zs.length≤1000000):Sp Tryz.prog 106 [.slice a zs.length ca] w0 [] (RV (.bool (decide (Yw zs=0)))):=by
 refine ZC Tryz.func106 rfl Tryz.ntmps106 rfl (Own.refl _) ?_
 simp only [ZV]
 refine Zb<|Za<|gas rfl rfl<|gA<|Zb<|Za<|gm rfl rfl<|Zt (ZJ rfl (vf:=[]) (vc:=[]) rfl rfl Tryz.call124 (fun w1 ho=>Zm5 zs hz a ca w1 (hsl.at ho) hn) ?_)
 rintro _ _ ⟨rfl,rfl⟩
 refine gr rfl (Z8 rfl rfl)<|gas rfl rfl<|gA<|Zu<|Zy (.inl rfl) Tryz.results106 rfl [] (by decide) ?_
 refine ⟨congrArg Value.bool (decide_eq_decide.2 ⟨fun h=>by omega,fun h=>by omega⟩),rfl⟩
theorem Load_ok (zs:List Nat) (a:Option Addr) (ca:Nat) (w0:World) (hsl:OldSl w0 [] a zs.length 1 (zs.map u8V)) (hn:zs.length≤140737488355328) (hg:goodLen zs.length):Sp Tryz.prog 75 [.slice a zs.length ca] w0 [] (fun v L=>∃ (bf:Nat) (rb:Option Nat) (cb:Nat),v=.tuple #[.pointer (some ⟨bf,0,none⟩),.int .i64 0]∧L=FlH bf rb cb none 0 (flNew zs)):=by
 obtain ⟨hg1,hg2,hg3⟩:=hg
 refine ZC Tryz.func75 rfl Tryz.ntmps75 rfl (Own.refl _) ?_
 simp only [ZV]
 refine Zb<|Za<|gas rfl rfl<|gas rfl rfl<|gA<|Zb<|Zb<|Za<|gm rfl rfl<|gr rfl (ZA Tryz.underlying65 rfl)<|gr rfl (by exact Vb (b:=256) rfl rfl (by omega)) ?_
 refine gr rfl (Z4 rfl rfl) (Zw (fun h7=>?_) (fun h7=>?_))
 ·exfalso; omega
 refine gm rfl rfl<|Zg rfl rfl<|Zm rfl (Zo rfl)<|Zg rfl rfl<|Zm rfl (ZA Tryz.underlying65 rfl)<|Zg rfl rfl (Zm rfl (ZX rfl rfl) (Zw (fun h11=>?_) (fun h11=>?_)))
 ·exfalso; omega
 refine gr rfl (Zn rfl rfl)<|gm rfl rfl<|Zg rfl rfl<|Zm rfl (Zo rfl)<|Zg rfl rfl<|Zm rfl (ZA Tryz.underlying65 rfl)<|Zg rfl rfl (Zm rfl (Yk rfl rfl) (Zw (fun h16=>?_) (fun h16=>?_)))
 ·exfalso; omega
 refine gr rfl (Zn rfl rfl)<|gA<|Zl rfl<|Zv<|Ze<|Zb<|YH 5 1<|Za<|gm rfl rfl<|Zt (ZJ rfl (vf:=[]) (vc:=[]) rfl rfl Tryz.call39 (fun w2 ho=>Wg zs a ca w2 (hsl.at ho) hn) ?_)
 rintro _ _ ⟨rc,cc,rfl,rfl⟩
 refine gr rfl (ZT rfl (fun _=>Zkz _ _ _ _ _)) ?_
 refine Zt (Z6 rfl rfl rfl (fun b21=>?_))
 refine gas rfl rfl<|gas rfl rfl<|gA<|Zu<|Y5 (.inl rfl) Tryz.results75 rfl rfl [0,1,2] (by decide) ?_
 exact ⟨b21,rc,cc,rfl,rfl⟩
theorem New_ok (n:Nat) (hn4:4≤n) (hn64:n≤64) (w0:World):Sp Tryz.prog 34 [natV n] w0 [] (fun v L=>∃ (bf:Nat) (rb:Option Nat) (cb:Nat),v=.tuple #[.pointer (some ⟨bf,0,none⟩),.int .i64 0]∧L=FlH bf rb cb none 0 (flNew (List.replicate (256 * n) 255))):=by
 refine ZC Tryz.func34 rfl Tryz.ntmps34 rfl (Own.refl _) ?_
 simp only [ZV]
 refine Zb<|Za<|gas rfl rfl<|gas rfl rfl<|gA<|Zb<|Zb<|Za<|gm rfl rfl<|gr rfl (ZX rfl rfl) (Zw (fun h5=>?_) (fun h5=>?_))
 ·exfalso; omega
 refine gm rfl rfl<|Zg rfl rfl<|Zm rfl (Zo rfl)<|Zg rfl rfl (Zm rfl (Yk rfl rfl) (Zw (fun h8=>?_) (fun h8=>?_)))
 ·exfalso; omega
 refine gr rfl (Zn rfl rfl)<|gA<|Zl rfl<|Zv<|Ze<|Zb<|Za<|Zt (ZQ (sz:=1) rfl rfl (fun _=>J7 _) rfl rfl (fun b10=>?_))
 refine gm rfl rfl<|gr rfl (by exact XX (a:=256) rfl rfl (by omega)) ?_
 refine Zt (ZJ rfl (vf:=[]) (vc:=[]) rfl rfl Tryz.call76 (fun w2 ho=>J8 255 (256 * n) (rowA (some b10)) 1 w2 (ho.rowSl 0 rfl) (by omega)) ?_)
 rintro _ _ ⟨rr,cr,rfl,rfl⟩
 have hll:(List.replicate (256 * n) 255).length=256 * n:=List.length_replicate
 refine Zt (ZJ rfl (vf:=[]) (vc:=[]) rfl rfl Tryz.call75 (fun w2 ho=>by have h:=Load_ok (List.replicate (256 * n) 255) (rowA (some rr)) (256 * n) w2 (by rw [hll]; exact ho.rowSl 0 rfl) (by rw [hll]; omega) (by rw [hll]; exact ⟨by omega,by omega,by omega⟩); rw [hll] at h; exact h) ?_)
 rintro _ _ ⟨bf,rb,cb,rfl,rfl⟩
 refine gr rfl (ZD rfl rfl)<|gr rfl (ZD rfl rfl)<|gas rfl rfl<|gas rfl rfl<|gA<|Zu<|Y5 (.inl rfl) Tryz.results34 rfl rfl [0,1,2] (by decide) ?_
 exact ⟨bf,rb,cb,rfl,rfl⟩
theorem Zo2 (f:Fl) (hf:f.Ok) (bf:Nat) (rb:Option Nat) (cb:Nat) (rp:Option Nat) (cp:Nat) (S:List Nat) (w0:World) (hown:Own w0 S w0 (FlH bf rb cb rp cp f)) (bk:Nat) (hin:bk * 256+256≤f.b.length):Sp Tryz.prog 69 [.pointer (some ⟨bf,0,none⟩),natV bk] w0 S (fun v L=>v=.bool (decide (Yw ((f.b.drop (bk * 256)).take 256)=0))∧L=FlH bf rb cb rp cp f):=by
 have hbl:=hf.hi
 have hbl0:=hf.lo
 obtain ⟨gb,rfl,hcb⟩:=Zbw (hown.holds (.row 5 1 rb f.b.length cb (f.b.map u8V)) (by simp)) (by omega)
 refine ZC Tryz.func69 rfl Tryz.ntmps69 rfl hown ?_
 simp only [ZV]
 refine Zb<|Za<|gas rfl rfl<|gA<|Zb<|Za<|gm rfl rfl<|gnc rfl rfl<|gr rfl (Zd rfl (VO _))<|gr rfl (Zi Tryz.underlying65 rfl rfl (by exact Zp 0 rfl rfl)) ?_
 refine gm rfl rfl<|gr rfl (by exact XX (b:=256) rfl rfl (by omega)) ?_
 refine gm rfl rfl<|gr rfl (by exact ZL (b:=1) rfl rfl (by omega)) ?_
 refine gr rfl (by exact XX (b:=256) rfl rfl (by omega)) ?_
 refine gr rfl (J3 Tryz.underlying65 YJ rfl rfl rfl (by omega) (by omega) (by omega)) ?_
 simp only [Int.toNat_natCast]
 rw [Ze3 (show bk * 256<cb by omega),show (bk+1) * 256 - bk * 256=256 by omega]
 have hpl:((f.b.drop (bk * 256)).take 256).length=256:=by simp; omega
 refine Zt (ZJ rfl (vf:=[]) (vc:=[]) rfl rfl Tryz.call106 (fun w2 ho=>by have h:=Zm6 ((f.b.drop (bk * 256)).take 256) (fun z hz=>hf.bs z (List.mem_of_mem_drop (List.mem_of_mem_take hz))) (some ⟨gb,bk * 256,none⟩) (cb - bk * 256) w2 (by rw [hpl,← JL]; exact Zc1 (ho.rowSl 1 rfl) (bk * 256) 256 (by omega)) (by omega); rw [hpl] at h; exact h) ?_)
 rintro _ _ ⟨rfl,rfl⟩
 refine gas rfl rfl<|gA<|Zu<|Zy (.inl rfl) Tryz.results69 rfl [0,1,2] (by decide) ?_
 exact ⟨rfl,rfl⟩
theorem none_q (f:Fl) (hf:f.Ok) (bf:Nat) (rb:Option Nat) (cb:Nat) (rp:Option Nat) (cp:Nat) (w0:World) (hc:Cells w0 ⟨bf,0,none⟩ (f.cells rb cb rp cp)):Sp Tryz.prog 38 [.pointer (some ⟨bf,0,none⟩)] w0 [] (RV (.bool false)):=by
 refine ZC Tryz.func38 rfl Tryz.ntmps38 rfl (Own.refl _) ?_
 simp only [ZV]
 refine Zb<|Za<|gas rfl rfl<|gA<|Zb<|Za<|gm rfl rfl<|gr rfl (X6 eg_32 Tryz.underlying32 rfl rfl)<|gm rfl rfl<|Zg rfl rfl<|Zm rfl (Zo rfl)<|Zg rfl rfl<|Zm rfl (ZN rfl)<|Zg rfl rfl<|Zm rfl (Zd rfl (Zmg _))<|Zg rfl rfl (Zm rfl (Zi Tryz.underlying4 rfl rfl (Yj (j:=0) hc (by simp) rfl)) ?_)
 refine Zg rfl rfl<|Zm rfl (rd_not rfl)<|gr rfl (Zn rfl rfl)<|gas rfl rfl<|gA<|Zu<|Zy (.inl rfl) Tryz.results38 rfl [] (by decide) ?_
 exact ⟨rfl,rfl⟩
theorem Zaa (f:Fl) (hf:f.Ok) (bf:Nat) (rb:Option Nat) (cb:Nat) (rp:Option Nat) (cp:Nat) (w0:World) (hc:Cells w0 ⟨bf,0,none⟩ (f.cells rb cb rp cp)):Sp Tryz.prog 41 [.pointer (some ⟨bf,0,none⟩)] w0 [] (RV (natV (f.b.length / 256))):=by
 have hbl:=hf.hi
 refine ZC Tryz.func41 rfl Tryz.ntmps41 rfl (Own.refl _) ?_
 simp only [ZV]
 refine Zb<|Za<|gas rfl rfl<|gA<|Zb<|Zb<|Za<|gm rfl rfl<|Zt (ZJ rfl (vf:=[]) (vc:=[]) rfl rfl Tryz.call38 (fun w1 ho=>none_q f hf bf rb cb rp cp w1 (hc.at ho)) ?_)
 rintro _ _ ⟨rfl,rfl⟩
 refine gA<|Zl rfl<|Zv<|Ze<|Zb<|Za<|gm rfl rfl<|gnc rfl rfl<|gr rfl (Zd rfl (VO _))<|gr rfl (Zi Tryz.underlying65 rfl rfl (Yj (j:=1) hc (by simp) rfl)) ?_
 refine gr rfl (ZA Tryz.underlying65 rfl)<|gr rfl (by exact JA (b:=256) rfl rfl (by omega) (by omega)) ?_
 refine gas rfl rfl<|gA<|Zu<|Zy (.inl rfl) Tryz.results41 rfl [] (by decide) ?_
 exact ⟨rfl,rfl⟩
theorem Zhv (f:Fl) (hf:f.Ok) (bf:Nat) (gb:Nat) (cb:Nat) (rp:Option Nat) (cp:Nat) (w0:World) (hc:Cells w0 ⟨bf,0,none⟩ (f.cells (some gb) cb rp cp)) (hcb:f.b.length≤cb) (bk sl:Nat) (hin:bk * 256+sl * 24+24≤f.b.length):Sp Tryz.prog 108 [.pointer (some ⟨bf,0,none⟩),.agg #[natV bk,natV sl]] w0 [] (RV (.slice (some ⟨gb,bk * 256+sl * 24,none⟩) 24 (cb - (bk * 256+sl * 24)))):=by
 have hbl:=hf.hi
 refine ZC Tryz.func108 rfl Tryz.ntmps108 rfl (Own.refl _) ?_
 simp only [ZV]
 refine Zb<|Za<|Zt (Z6 rfl rfl rfl (fun b3=>?_))
 refine gas rfl rfl<|gA<|Zb<|Za<|gr rfl (Zd rfl (Zdw _))<|gr rfl (Zi Tryz.underlying3 rfl rfl (by exact Zp 0 rfl rfl)) ?_
 refine gr rfl (by exact XX (b:=256) rfl rfl (by omega)) ?_
 refine gr rfl (Zd rfl (Zdx _))<|gr rfl (Zi Tryz.underlying3 rfl rfl (by exact Zp 0 rfl rfl)) ?_
 refine gr rfl (by exact XX (b:=24) rfl rfl (by omega)) ?_
 refine gr rfl (by exact ZL rfl rfl (by omega)) ?_
 refine gas rfl rfl<|gA<|Zb<|Za<|gm rfl rfl<|gnc rfl rfl<|gr rfl (Zd rfl (VO _))<|gr rfl (Zi Tryz.underlying65 rfl rfl (Yj (j:=1) hc (by simp) rfl)) ?_
 refine gm rfl rfl<|gm rfl rfl<|gr rfl (by exact ZL (b:=24) rfl rfl (by omega)) ?_
 refine gr rfl (J3 Tryz.underlying65 YJ rfl rfl rfl (by omega) (by omega) (by omega)) ?_
 refine gas rfl rfl<|gA<|Zu<|Zy (.inl rfl) Tryz.results108 rfl [] (by decide) ?_
 refine ⟨?_,rfl⟩
 simp only [Int.toNat_natCast]
 rw [Ze3 (show bk * 256+sl * 24<cb by omega),show bk * 256+sl * 24+24 - (bk * 256+sl * 24)=24 by omega]
namespace Iv
def keyP (zs:List Nat):Nat:=gB zs 0 <<< 8 ||| gB zs 1
def numTo (zs:List Nat) (k:Nat):Nat:=(List.range k).foldl (fun x i=>x <<< 8 ||| gB zs (3+i)) 0
def Xn (zs:List Nat):List Nat:=(zs.drop 7).take (gB zs 2)
def W1 (zs:List Nat):Bool:=decide (gB zs 23≠Yw (zs.take 23)) || decide (999<keyP zs) || decide (16<gB zs 2)
theorem Vx (zs:List Nat) (k:Nat):numTo zs (k+1)=numTo zs k <<< 8 ||| gB zs (3+k):=by unfold numTo; rw [List.range_succ,List.foldl_append]; rfl
theorem Zo3 {zs:List Nat} (h:∀ z∈zs,z<256):∀ k,numTo zs k<2 ^ (8 * k)
  | 0=>by simp [numTo]
  | k+1=>by
    rw [Vx]
    have ih:=Zo3 h k
    have h2:numTo zs k <<< 8<2 ^ (8 * (k+1)):=by
      rw [Nat.shiftLeft_eq,show 8 * (k+1)=8 * k+8 by omega,Nat.pow_add]
      exact Nat.mul_lt_mul_of_pos_right ih (by decide)
    exact Nat.or_lt_two_pow h2 (Nat.lt_of_lt_of_le (X4 h _) (show 2 ^ 8≤2 ^ (8 * (k+1)) from Nat.pow_le_pow_right (by decide) (by omega)))
theorem Zlb {zs:List Nat} (h:∀ z∈zs,z<256) {k:Nat} (hk:k≤4):numTo zs k<4294967296:=Nat.lt_of_lt_of_le (Zo3 h k) (show 2 ^ (8 * k)≤2 ^ 32 from Nat.pow_le_pow_right (by decide) (by omega))
theorem Zqd {zs:List Nat} (h:∀ z∈zs,z<256) {k:Nat} (hk:k<4):numTo zs k * 2 ^ 8<4294967296:=by
 have h1:=Zo3 h k
 have h2:(2:Nat) ^ (8 * k)≤2 ^ 24:=Nat.pow_le_pow_right (by decide) (by omega)
 have h3:(2:Nat) ^ 24=16777216:=by decide
 omega
theorem key_lt {zs:List Nat} (h:∀ z∈zs,z<256):keyP zs<65536:=by
 unfold keyP
 have h0:=X4 h 0
 have h1:gB zs 0 <<< 8<2 ^ 16:=by rw [Nat.shiftLeft_eq]; omega
 exact Nat.or_lt_two_pow (n:=16) h1 (Nat.lt_trans (X4 h 1) (by decide))
end Iv
namespace Iv
theorem get_part {zs:List Nat} {j:Nat} (hj:j<4) (hl:zs.length=24):(((zs.map u8V).drop 3).take 4)[j]? = some (u8V (gB zs (3+j))):=by
 rw [List.getElem?_take,if_pos hj,List.getElem?_drop]
 exact XY (Vw (by omega))
theorem val_sl {w0:World} {S:List Nat} {zs:List Nat} {a:Option Addr} {ca:Nat} (hsl:OldSl w0 S a 24 1 (zs.map u8V)) (hlen:zs.length=24) (hca:24≤ca) (h2:gB zs 2≤16):(Xn zs).length=gB zs 2∧OldSl w0 S (Zcq a ca 7 1) (Xn zs).length 1 ((Xn zs).map u8V):=by
 have hl:(Xn zs).length=gB zs 2:=by unfold Xn; simp; omega
 refine ⟨hl,?_⟩
 have h:=(hsl.drop 7 (by omega) hca).take (gB zs 2) (by omega)
 rw [hl]
 unfold Xn
 rw [← JL]
 simpa using h
end Iv
theorem Zlc (zs:List Nat) (hz:∀ z∈zs,z<256) (hlen:zs.length=24) (a:Option Addr) (ca:Nat) (w0:World) (hsl:OldSl w0 [] a 24 1 (zs.map u8V)):Sp Tryz.prog 124 [.slice a 23 ca] w0 [] (RV (natV (Yw (zs.take 23)))):=by
 have hl:(zs.take 23).length=23:=by rw [List.length_take,hlen]; rfl
 have h:=Zm5 (zs.take 23) (fun z h=>hz z (List.mem_of_mem_take h)) a ca w0 (by
  rw [hl,List.map_take]
  have:=hsl.take 23 (by omega)
  simpa using this) (by omega)
 rw [hl] at h
 exact h
theorem Zjs (zs:List Nat) (hz:∀ z∈zs,z<256) (hlen:zs.length=24) (a:Option Addr) (ca:Nat) (hca:24≤ca) (w0:World) (hsl:OldSl w0 [] a 24 1 (zs.map u8V)):Sp Tryz.prog 107 [.slice a 24 ca] w0 [] (fun v L=>(W1 zs=true∧v=.tuple #[.agg #[.int .i64 0,.int .u32 0,.slice none 0 0],.bool false]∧L=[])∨(W1 zs=false∧∃ (r:Option Nat) (c:Nat),v=.tuple #[.agg #[natV (keyP zs),.int .u32 (numTo zs 4:Nat),.slice (rowA r) (Xn zs).length c],.bool true]∧L=[.row 5 1 r (Xn zs).length c ((Xn zs).map u8V)])):=by
 have h0:=X4 hz 0
 have h1:=X4 hz 1
 have h2:=X4 hz 2
 have hk:=key_lt hz
 have hs3:OldSl w0 [] (Zcq a ca 3 1) 4 1 (((zs.map u8V).drop 3).take 4):=by have h:=(hsl.drop 3 (by omega) hca).take 4 (by omega); exact h
 refine ZC Tryz.func107 rfl Tryz.ntmps107 rfl (Own.refl _) ?_
 simp only [ZV]
 refine Zb<|Za<|Zt (ZU Yl rfl rfl (fun b2=>?_))
 refine gas rfl rfl<|gA<|Zb<|ZO [0] false 12 rfl<|Zc 0 rfl rfl ⟨[0],by decide,rfl⟩ (Zf (Zo rfl)) ?_
 refine Zc 1 rfl rfl ⟨[0],by decide,rfl⟩ (Zf (Z9 hsl Tryz.underlying65 YJ rfl rfl (by omega) (by omega))) ?_
 refine Zc 2 rfl rfl ⟨[0],by decide,rfl⟩ (Zf (Zi Tryz.underlying5 rfl rfl (YX (off:=0) hsl (XY (Vw (show 0<zs.length by omega)))))) ?_
 refine Zc 3 rfl rfl ⟨[0],by decide,rfl⟩ (Zf (Xb Tryz.runUnderlying5 Tryz.runUnderlying3 rfl (Vd (by omega)))) ?_
 refine Zc 4 rfl rfl ⟨[0],by decide,rfl⟩ (Zf (rd_shl (b:=8) rfl rfl (by omega) (by omega))) ?_
 refine Zc 5 rfl rfl ⟨[0],by decide,rfl⟩ (Zf (Zo rfl)) ?_
 refine Zc 6 rfl rfl ⟨[0],by decide,rfl⟩ (Zf (Z9 hsl Tryz.underlying65 YJ rfl rfl (by omega) (by omega))) ?_
 refine Zc 7 rfl rfl ⟨[0],by decide,rfl⟩ (Zf (Zi Tryz.underlying5 rfl rfl (YX (off:=1) hsl (XY (Vw (show 1<zs.length by omega)))))) ?_
 refine Zc 8 rfl rfl ⟨[0],by decide,rfl⟩ (Zf (Xb Tryz.runUnderlying5 Tryz.runUnderlying3 rfl (Vd (by omega)))) ?_
 refine Zc 9 rfl rfl ⟨[0],by decide,rfl⟩ (Zf (rd_or rfl rfl (by (rw [Nat.shiftLeft_eq]; omega)) (by omega))) ?_
 refine Zc 10 rfl rfl ⟨[0],by decide,rfl⟩ (Zf (ZT rfl (fun _=>bd_184_0 _))) ?_
 refine ZK 11 rfl (.inr ⟨[0],by decide,rfl⟩) (ZU Yl rfl rfl (fun b4=>?_))
 refine ZK 12 rfl (.inr ⟨[1],by decide,rfl⟩) (Zz 0 Yl rfl rfl rfl rfl rfl rfl (by rfl) ?_)
 refine ZP (.inl (by kernel_rfl)) ?_
 refine Ze<|Zb<|Zb ?_
 rw [show gB zs 0 <<< 8 ||| gB zs 1=keyP zs from rfl]
 refine Za<|gm rfl rfl<|gr rfl (J3 Tryz.underlying65 YJ rfl rfl rfl (by omega) (by omega) (by omega)) ?_
 refine gr rfl (ZA Tryz.underlying65 rfl)<|gm rfl rfl<|gA<|ZB<|ZZ (ι:=Nat) [(0,_),(2,_),(4,_),(19,_),(20,_)] [_] (fun j=>j≤4) (fun j Fr0=>((21,natV j)::Fr0)) (fun j Fr0=>(.blk b4 [natV (keyP zs),.int .u32 (numTo zs j:Nat),.slice none 0 0] 184::Fr0)) (fun j=>4 - j) 0 (Nat.zero_le _) ⟨rfl,rfl,rfl,rfl,rfl,rfl,trivial⟩ ⟨[0,1],by decide,rfl⟩ ?_
 rintro j hj
 refine Zb<|Za<|gr rfl (ZX rfl rfl) (Zw (fun h22=>?_) (fun h22=>?_))
 ·refine gA<|Zb<|Zk rfl<|Zv<|Ze<|Zb<|ZB<|Zb<|Za<|gr rfl (Z9 hs3 Tryz.underlying65 YJ rfl rfl (by omega) (by omega)) ?_
  refine gr rfl (Zi Tryz.underlying5 rfl rfl (YX hs3 (get_part (show j<4 by omega) hlen))) ?_
  refine gas rfl rfl<|gA<|Za<|gr rfl (Zd rfl (Wf _))<|gr rfl (Zi Tryz.underlying136 rfl rfl (by exact Zp 0 rfl rfl)) ?_
  refine gr rfl (rd_shl32 (b:=8) rfl rfl (by omega) (Zqd hz (by omega))) ?_
  refine gm rfl rfl<|gr rfl (Xb Tryz.runUnderlying5 Tryz.runUnderlying136 rfl (V0 (by have:=X4 hz (3+j); omega))) ?_
  refine gr rfl (rd_or32 rfl rfl (by have:=Zqd hz (k:=j) (by omega); rw [Nat.shiftLeft_eq]; exact this) (by have:=X4 hz (3+j); omega)) ?_
  refine gr rfl (Zd rfl (Wf _))<|Zt (Yc 0 Jm rfl rfl rfl rfl rfl (by rfl) (by rfl) ?_)
  refine ZM<|ZI<|Ze ?_
  rw [← Vx]
  refine Za<|gr rfl (by exact ZL (b:=1) rfl rfl (by omega)) ?_
  refine gm rfl rfl<|ZM<|Ze ?_
  exact ZR (j+1) ⟨by omega,by omega⟩ ⟨rfl,rfl,rfl,rfl,rfl,rfl,trivial⟩ ⟨[0,1],by decide,rfl⟩
 refine gA<|Zb<|Zl rfl<|Z1<|Zs<|Zs<|ZE<|Ze<|Zb<|Zb<|ZO [0,1] true 18 rfl<|Zc 0 rfl rfl ⟨[0,1],by decide,rfl⟩ (Zf (Zo rfl)) ?_
 refine Zc 1 rfl rfl ⟨[0,1],by decide,rfl⟩ (Zf (Z9 hsl Tryz.underlying65 YJ rfl rfl (by omega) (by omega))) ?_
 refine Zc 2 rfl rfl ⟨[0,1],by decide,rfl⟩ (Zf (Zi Tryz.underlying5 rfl rfl (YX (off:=23) hsl (XY (Vw (show 23<zs.length by omega)))))) ?_
 refine Zc 3 rfl rfl ⟨[0,1],by decide,rfl⟩ (Zf (Xb Tryz.runUnderlying5 Tryz.runUnderlying3 rfl (Vd (by have:=X4 hz 23; omega)))) ?_
 refine Zc 4 rfl rfl ⟨[0,1],by decide,rfl⟩ (Zf (Zo rfl)) ?_
 refine Zc 5 rfl rfl ⟨[0,1],by decide,rfl⟩ (Zf (Jg Tryz.underlying65 YJ rfl rfl (by omega) (by omega))) ?_
 refine Zc 6 rfl rfl ⟨[0,1],by decide,rfl⟩ (YE (vf:=[]) (vc:=[]) rfl rfl Tryz.call124 (fun w1 ho=>Zlc zs hz hlen a ca w1 (hsl.at ho)) (by rintro _ _ ⟨h,_⟩; exact h)) ?_
 refine Zc 7 rfl rfl ⟨[0,1],by decide,rfl⟩ (Zf (Z4 rfl rfl)) (Zw (fun h40=>?_) (fun h40=>?_))
 ·refine Zc 8 rfl rfl ⟨[0,1],by decide,rfl⟩ (Zf (Zo rfl)) ?_
  refine ZF 9 rfl rfl rfl rfl rfl ⟨[0,1],by decide,rfl⟩ ?_
  refine ZF 10 rfl rfl rfl rfl rfl ⟨[0,1],by decide,rfl⟩ ?_
  refine ZF 11 rfl rfl rfl rfl rfl ⟨[0,1],by decide,rfl⟩ ?_
  refine Zc 12 rfl rfl ⟨[0,1],by decide,rfl⟩ (Zf (Zq rfl rfl)) ?_
  refine Zc 13 rfl rfl ⟨[0,1],by decide,rfl⟩ (Zf (Zo rfl)) ?_
  refine ZF 14 rfl rfl rfl rfl rfl ⟨[0,1],by decide,rfl⟩ ?_
  refine ZF 15 rfl rfl rfl rfl rfl ⟨[0,1],by decide,rfl⟩ ?_
  refine ZF 16 rfl rfl rfl rfl rfl ⟨[0,1],by decide,rfl⟩ ?_
  refine ZF 17 rfl rfl rfl rfl rfl ⟨[0,1],by decide,rfl⟩ ?_
  refine Zc 18 rfl rfl ⟨[0,1],by decide,rfl⟩ (Zf (Zq rfl rfl)) ?_
  refine ZP (.inr ⟨[0,1],by decide,rfl⟩) ?_
  refine Ze<|Zk rfl<|Zb<|Za<|gr rfl (ZT rfl (fun _=>Zk1)) ?_
  refine Zt (Zz 1 Yl rfl rfl rfl rfl rfl rfl (by rfl) ?_)
  refine gas rfl rfl<|gA<|Zu<|Zh<|YF (.inl rfl) Tryz.results107 (YC Tryz.underlying184 rfl Yl rfl (by rfl) (ZH 1 (off:=0) (k:=3) rfl rfl)) (YU rfl) [] (by decide) ?_
  refine .inl ⟨?_,rfl,rfl⟩
  unfold W1
  rw [decide_eq_true (show gB zs 23≠Yw (zs.take 23) by omega)]; rfl
 refine Zc 8 rfl rfl ⟨[0,1],by decide,rfl⟩ (Zf (Zo rfl)) ?_
 refine ZG 9 rfl rfl rfl rfl rfl ⟨[0,1],by decide,rfl⟩ (Zf (Zd rfl (XG _))) ?_
 refine ZG 10 rfl rfl rfl rfl rfl ⟨[0,1],by decide,rfl⟩ (Zf (Zi Tryz.underlying3 rfl rfl (by exact Zp 0 rfl rfl))) ?_
 refine ZG 11 rfl rfl rfl rfl rfl ⟨[0,1],by decide,rfl⟩ (Zf (Yk rfl rfl)) (Zw (fun h44=>?_) (fun h44=>?_))
 ·refine Zc 12 rfl rfl ⟨[0,1],by decide,rfl⟩ (Zf (Zn rfl rfl)) ?_
  refine Zc 13 rfl rfl ⟨[0,1],by decide,rfl⟩ (Zf (Zo rfl)) ?_
  refine ZF 14 rfl rfl rfl rfl rfl ⟨[0,1],by decide,rfl⟩ ?_
  refine ZF 15 rfl rfl rfl rfl rfl ⟨[0,1],by decide,rfl⟩ ?_
  refine ZF 16 rfl rfl rfl rfl rfl ⟨[0,1],by decide,rfl⟩ ?_
  refine ZF 17 rfl rfl rfl rfl rfl ⟨[0,1],by decide,rfl⟩ ?_
  refine Zc 18 rfl rfl ⟨[0,1],by decide,rfl⟩ (Zf (Zq rfl rfl)) ?_
  refine ZP (.inr ⟨[0,1],by decide,rfl⟩) ?_
  refine Ze<|Zk rfl<|Zb<|Za<|gr rfl (ZT rfl (fun _=>Zk1)) ?_
  refine Zt (Zz 1 Yl rfl rfl rfl rfl rfl rfl (by rfl) ?_)
  refine gas rfl rfl<|gA<|Zu<|Zh<|YF (.inl rfl) Tryz.results107 (YC Tryz.underlying184 rfl Yl rfl (by rfl) (ZH 1 (off:=0) (k:=3) rfl rfl)) (YU rfl) [] (by decide) ?_
  refine .inl ⟨?_,rfl,rfl⟩
  unfold W1
  rw [decide_eq_true (show 999<keyP zs by omega)]; simp
 refine Zc 12 rfl rfl ⟨[0,1],by decide,rfl⟩ (Zf (Zn rfl rfl)) ?_
 refine Zc 13 rfl rfl ⟨[0,1],by decide,rfl⟩ (Zf (Zo rfl)) ?_
 refine ZG 14 rfl rfl rfl rfl rfl ⟨[0,1],by decide,rfl⟩ (Zf (Zo rfl)) ?_
 refine ZG 15 rfl rfl rfl rfl rfl ⟨[0,1],by decide,rfl⟩ (Zf (Z9 hsl Tryz.underlying65 YJ rfl rfl (by omega) (by omega))) ?_
 refine ZG 16 rfl rfl rfl rfl rfl ⟨[0,1],by decide,rfl⟩ (Zf (Zi Tryz.underlying5 rfl rfl (YX (off:=2) hsl (XY (Vw (show 2<zs.length by omega)))))) ?_
 refine ZG 17 rfl rfl rfl rfl rfl ⟨[0,1],by decide,rfl⟩ (Zf (Yk rfl rfl)) (Zw (fun h50=>?_) (fun h50=>?_))
 ·refine Zc 18 rfl rfl ⟨[0,1],by decide,rfl⟩ (Zf (Zn rfl rfl)) ?_
  refine ZP (.inr ⟨[0,1],by decide,rfl⟩) ?_
  refine Ze<|Zk rfl<|Zb<|Za<|gr rfl (ZT rfl (fun _=>Zk1)) ?_
  refine Zt (Zz 1 Yl rfl rfl rfl rfl rfl rfl (by rfl) ?_)
  refine gas rfl rfl<|gA<|Zu<|Zh<|YF (.inl rfl) Tryz.results107 (YC Tryz.underlying184 rfl Yl rfl (by rfl) (ZH 1 (off:=0) (k:=3) rfl rfl)) (YU rfl) [] (by decide) ?_
  refine .inl ⟨?_,rfl,rfl⟩
  unfold W1
  rw [decide_eq_true (show 16<gB zs 2 by omega)]; simp
 refine Zc 18 rfl rfl ⟨[0,1],by decide,rfl⟩ (Zf (Zn rfl rfl)) ?_
 refine ZP (.inr ⟨[0,1],by decide,rfl⟩) ?_
 refine Ze<|Zl rfl<|Zv<|Ze<|Zb<|Za<|gm rfl rfl<|gm rfl rfl<|gr rfl (Z9 hsl Tryz.underlying65 YJ rfl rfl (by omega) (by omega)) ?_
 refine gr rfl (Zi Tryz.underlying5 rfl rfl (YX (off:=2) hsl (XY (Vw (show 2<zs.length by omega))))) ?_
 refine gr rfl (Xb Tryz.runUnderlying5 Tryz.runUnderlying3 rfl (Vd (by have:=X4 hz 2; omega))) ?_
 have hgood:W1 zs=false:=by
  unfold W1
  rw [decide_eq_false (show ¬ (gB zs 23≠Yw (zs.take 23)) by omega),decide_eq_false (show ¬ 999<keyP zs by omega),decide_eq_false (show ¬ 16<gB zs 2 by omega)]; rfl
 refine gr rfl (by exact ZL (a:=7) rfl rfl (by omega)) ?_
 refine gr rfl (J3 Tryz.underlying65 YJ rfl rfl rfl (by omega) (by omega) (by omega)) ?_
 simp only [Int.toNat_natCast]
 obtain ⟨hvl,hv7⟩:=val_sl hsl hlen hca (show gB zs 2≤16 by omega)
 rw [show (7+gB zs 2) - Int.toNat 7=(Xn zs).length by rw [hvl]; show 7+gB zs 2 - 7=_; omega]
 refine Zt (ZJ rfl (vf:=[]) (vc:=[]) rfl rfl Tryz.call39 (fun w1 ho=>Wg (Xn zs) (Zcq a ca 7 1) (ca - 7) w1 (hv7.at ho) (by omega)) ?_)
 rintro _ _ ⟨rv,cv,rfl,rfl⟩
 refine gr rfl (Zd rfl (Zbs _))<|Zt (Yc 1 ty_65 rfl rfl rfl rfl rfl (by rfl) (by rfl) ?_)
 refine gA<|Zb<|Za<|gr rfl (Zr Tryz.underlying184 rfl Yl rfl (by exact ZH 1 (off:=0) (k:=3) rfl rfl) rfl) ?_
 refine Zt (Zz 2 Yl rfl rfl rfl rfl rfl rfl (by rfl) ?_)
 refine gas rfl rfl<|gA<|Zu<|YF (.inl rfl) Tryz.results107 (YC Tryz.underlying184 rfl Yl rfl (by rfl) (ZH 2 (off:=0) (k:=3) rfl rfl)) (YU rfl) [0] (by decide) ?_
 exact .inr ⟨hgood,rv,cv,by rw [show j=4 by omega]; rfl,rfl⟩
namespace Iv
def Vn (f:Fl) (id:Nat):Int:=if f.down then 9 else if id≠f.st then 9 else 0
theorem Zjt : ∀ n,Yw (List.replicate n 255)=0
  | 0=>rfl
  | n+1=>by rw [List.replicate_succ,Yw,Zjt n]; rfl
end Iv
theorem Zgm (f:Fl) (hf:f.Ok) (bs bf:Nat) (rb:Option Nat) (cb:Nat) (rp:Option Nat) (cp:Nat) (id bm num:Nat) (free:Int) (w0:World) (hs:Cells w0 ⟨bs,0,none⟩ [.bool true,.pointer (some ⟨bf,0,none⟩),natV id,.map (some bm),.int .u32 (num:Nat),.int .i64 free]) (hc:Cells w0 ⟨bf,0,none⟩ (f.cells rb cb rp cp)):Sp Tryz.prog 184 [.pointer (some ⟨bs,0,none⟩)] w0 [] (RV (.int .i64 (Vn f id))):=by
 refine ZC Tryz.func184 rfl Tryz.ntmps184 rfl (Own.refl _) ?_
 simp only [ZV]
 refine Zb<|Za<|gas rfl rfl<|gA<|Zb<|ZB<|Zb<|Za<|gm rfl rfl<|gr rfl (X6 eg_33 Tryz.underlying33 rfl rfl)<|gm rfl rfl<|Zg rfl rfl<|Zm rfl (Zo rfl)<|Zg rfl rfl<|Zm rfl (ZN rfl)<|Zg rfl rfl<|Zm rfl (Zd rfl (Zhg _))<|Zg rfl rfl (Zm rfl (Zi Tryz.underlying4 rfl rfl (Yj (j:=0) hs (by simp) rfl)) ?_)
 refine Zg rfl rfl<|Zm rfl (rd_not rfl)<|gr rfl (Zn rfl rfl)<|gas rfl rfl<|gA<|Zl rfl<|Zb<|ZO [] true 21 rfl<|Zc 0 rfl rfl ⟨[],by decide,rfl⟩ (Zf (Zo rfl)) ?_
 refine Zc 1 rfl rfl ⟨[],by decide,rfl⟩ (Zf (ZN rfl)) ?_
 refine Zc 2 rfl rfl ⟨[],by decide,rfl⟩ (Zf (Zd rfl (X3 _))) ?_
 refine Zc 3 rfl rfl ⟨[],by decide,rfl⟩ (Zf (Zi Tryz.underlying32 rfl rfl (Yj (j:=1) hs (by simp) rfl))) ?_
 refine Zc 4 rfl rfl ⟨[],by decide,rfl⟩ (Zf (ZN rfl)) ?_
 refine Zc 5 rfl rfl ⟨[],by decide,rfl⟩ (Zf (Zd rfl (Wv _))) ?_
 refine Zc 6 rfl rfl ⟨[],by decide,rfl⟩ (Zf (Zi Tryz.underlying4 rfl rfl (Yj (j:=4) hc (by simp) rfl))) ?_
 refine Z0 (fun h20=>?_) (fun h20=>?_)
 ·refine Zc 7 rfl rfl ⟨[],by decide,rfl⟩ (Zf (Zo rfl)) ?_
  refine ZF 8 rfl rfl rfl rfl rfl ⟨[],by decide,rfl⟩ ?_
  refine ZF 9 rfl rfl rfl rfl rfl ⟨[],by decide,rfl⟩ ?_
  refine ZF 10 rfl rfl rfl rfl rfl ⟨[],by decide,rfl⟩ ?_
  refine ZF 11 rfl rfl rfl rfl rfl ⟨[],by decide,rfl⟩ ?_
  refine ZF 12 rfl rfl rfl rfl rfl ⟨[],by decide,rfl⟩ ?_
  refine ZF 13 rfl rfl rfl rfl rfl ⟨[],by decide,rfl⟩ ?_
  refine ZF 14 rfl rfl rfl rfl rfl ⟨[],by decide,rfl⟩ ?_
  refine ZF 15 rfl rfl rfl rfl rfl ⟨[],by decide,rfl⟩ ?_
  refine ZF 16 rfl rfl rfl rfl rfl ⟨[],by decide,rfl⟩ ?_
  refine ZF 17 rfl rfl rfl rfl rfl ⟨[],by decide,rfl⟩ ?_
  refine ZF 18 rfl rfl rfl rfl rfl ⟨[],by decide,rfl⟩ ?_
  refine ZF 19 rfl rfl rfl rfl rfl ⟨[],by decide,rfl⟩ ?_
  refine Zc 20 rfl rfl ⟨[],by decide,rfl⟩ (Zf (Zq rfl rfl)) ?_
  refine Zc 21 rfl rfl ⟨[],by decide,rfl⟩ (Zf (ZY rfl)) ?_
  refine ZP (.inr ⟨[],by decide,rfl⟩) ?_
  refine Ze<|Zk rfl<|Zb<|Za<|gas rfl rfl<|gA<|Zu<|Zx<|Zh<|Zy (.inl rfl) Tryz.results184 rfl [] (by decide) ?_
  refine ⟨congrArg (Value.int .i64) ?_,rfl⟩
  unfold Vn
  rw [if_pos h20]
 refine Zc 7 rfl rfl ⟨[],by decide,rfl⟩ (Zf (Zo rfl)) ?_
 refine ZG 8 rfl rfl rfl rfl rfl ⟨[],by decide,rfl⟩ (Zf (Zo rfl)) ?_
 refine ZG 9 rfl rfl rfl rfl rfl ⟨[],by decide,rfl⟩ (Zf (ZN rfl)) ?_
 refine ZG 10 rfl rfl rfl rfl rfl ⟨[],by decide,rfl⟩ (Zf (Zd rfl (Zmj _))) ?_
 refine ZG 11 rfl rfl rfl rfl rfl ⟨[],by decide,rfl⟩ (Zf (Zi Tryz.underlying3 rfl rfl (Yj (j:=2) hs (by simp) rfl))) ?_
 refine ZG 12 rfl rfl rfl rfl rfl ⟨[],by decide,rfl⟩ (Zf (Zo rfl)) ?_
 refine ZG 13 rfl rfl rfl rfl rfl ⟨[],by decide,rfl⟩ (Zf (ZN rfl)) ?_
 refine ZG 14 rfl rfl rfl rfl rfl ⟨[],by decide,rfl⟩ (Zf (Zd rfl (X3 _))) ?_
 refine ZG 15 rfl rfl rfl rfl rfl ⟨[],by decide,rfl⟩ (Zf (Zi Tryz.underlying32 rfl rfl (Yj (j:=1) hs (by simp) rfl))) ?_
 refine ZG 16 rfl rfl rfl rfl rfl ⟨[],by decide,rfl⟩ (Zf (ZN rfl)) ?_
 refine ZG 17 rfl rfl rfl rfl rfl ⟨[],by decide,rfl⟩ (Zf (Zd rfl (Zdu _))) ?_
 refine ZG 18 rfl rfl rfl rfl rfl ⟨[],by decide,rfl⟩ (Zf (Zi Tryz.underlying3 rfl rfl (Yj (j:=7) hc (by simp) rfl))) ?_
 refine ZG 19 rfl rfl rfl rfl rfl ⟨[],by decide,rfl⟩ (Zf (Z4 rfl rfl)) (Zw (fun h33=>?_) (fun h33=>?_))
 ·refine Zc 20 rfl rfl ⟨[],by decide,rfl⟩ (Zf (Zn rfl rfl)) ?_
  refine Zc 21 rfl rfl ⟨[],by decide,rfl⟩ (Zf (ZY rfl)) ?_
  refine ZP (.inr ⟨[],by decide,rfl⟩) ?_
  refine Ze<|Zk rfl<|Zb<|Za<|gas rfl rfl<|gA<|Zu<|Zx<|Zh<|Zy (.inl rfl) Tryz.results184 rfl [] (by decide) ?_
  refine ⟨congrArg (Value.int .i64) ?_,rfl⟩
  unfold Vn
  rw [if_neg (by rw [h20]; decide),if_pos (by omega)]
 refine Zc 20 rfl rfl ⟨[],by decide,rfl⟩ (Zf (Zn rfl rfl)) ?_
 refine Zc 21 rfl rfl ⟨[],by decide,rfl⟩ (Zf (ZY rfl)) ?_
 refine ZP (.inr ⟨[],by decide,rfl⟩) ?_
 refine Ze<|Zl rfl<|Zv<|ZI<|Ze<|Zb<|Za<|gas rfl rfl<|gA<|Zu<|Zy (.inl rfl) Tryz.results184 rfl [] (by decide) ?_
 refine ⟨congrArg (Value.int .i64) ?_,rfl⟩
 unfold Vn
 rw [if_neg (by rw [h20]; decide),if_neg (by omega)]
theorem most_q (f:Fl) (hf:f.Ok) (bs bf:Nat) (rb:Option Nat) (cb:Nat) (rp:Option Nat) (cp:Nat) (id bm num:Nat) (free:Int) (w0:World) (hs:Cells w0 ⟨bs,0,none⟩ [.bool true,.pointer (some ⟨bf,0,none⟩),natV id,.map (some bm),.int .u32 (num:Nat),.int .i64 free]) (hc:Cells w0 ⟨bf,0,none⟩ (f.cells rb cb rp cp)):Sp Tryz.prog 183 [.pointer (some ⟨bs,0,none⟩)] w0 [] (RV (natV (10 * (f.b.length / 256 - 2)))):=by
 have hbl:=hf.hi
 have hbl0:=hf.lo
 refine ZC Tryz.func183 rfl Tryz.ntmps183 rfl (Own.refl _) ?_
 simp only [ZV]
 refine Zb<|Za<|gas rfl rfl<|gA<|Zb<|Za<|gm rfl rfl<|gnc rfl rfl<|gr rfl (Zd rfl (X3 _))<|gr rfl (Zi Tryz.underlying32 rfl rfl (Yj (j:=1) hs (by simp) rfl)) ?_
 refine Zt (ZJ rfl (vf:=[]) (vc:=[]) rfl rfl Tryz.call41 (fun w1 ho=>Zaa f hf bf rb cb rp cp w1 (hc.at ho)) ?_)
 rintro _ _ ⟨rfl,rfl⟩
 refine gr rfl (by exact Jz (b:=2) rfl rfl (by omega) (by omega)) ?_
 refine gr rfl (by exact XX (a:=10) rfl rfl (by omega)) ?_
 refine gas rfl rfl<|gA<|Zu<|Zy (.inl rfl) Tryz.results183 rfl [] (by decide) ?_
 exact ⟨rfl,rfl⟩
theorem Zhw (zs:List Nat) (hz:∀ z∈zs,z<256) (hlen:zs.length=24) (a:Option Addr) (ca:Nat) (hca:24≤ca) (w0:World) (hsl:OldSl w0 [] a 24 1 (zs.map u8V)) (hb:W1 zs=true):Sp Tryz.prog 107 [.slice a 24 ca] w0 [] (RV (.tuple #[.agg #[.int .i64 0,.int .u32 0,.slice none 0 0],.bool false])):=by
 refine (Zjs zs hz hlen a ca hca w0 hsl).mono ?_
 rintro v L (⟨_,rfl,rfl⟩ | ⟨h,_⟩)
 ·exact ⟨rfl,rfl⟩
 ·rw [hb] at h; cases h
namespace Iv
section
variable {dm:List Deferred} {P:Program} {n:Nat} {e:Env} {w0:World} {S:List Nat} {l:List HL} {dst:Option Tmp} {ty:TypeId} {pos:String} {aft:Array Edge} {gd:Option (Nat × Bool)}
theorem XT {t E:TypeId} {z:Value} {bytes:Nat} {x y:Operand} {g m cap:Nat} {k:IntKind} {i:Int} (hu:P.underlying t=some (.slice E)) (ht:TyF P E z 1 bytes) (hx:e.ev x=some (.slice (some ⟨g,0,none⟩) m cap)) (hy:e.ev y=some (.int k i)) (h0:0≤i) (h1:i<m) :
    Rd P dm n e w0 S l ⟨dst,.indexAddr t x y,ty,pos,aft,gd⟩ (.pointer (some ⟨g,i.toNat,none⟩)):=by
  have h:=Zel (dm:=dm) (dst:=dst) (ty:=ty) (pos:=pos) (aft:=aft) (gd:=gd) (n:=n) (w0:=w0) (S:=S) (l:=l) hu ht hx hy h0 h1
  rwa [Addr.add_lit,Nat.zero_add] at h
end
theorem W6 (n:Nat):IntKind.u8.wrap (n:Int)=((n % 256:Nat):Int):=by
 unfold IntKind.wrap
 simp only [IntKind.signed,IntKind.bits,Bool.false_and,if_false,Bool.false_eq_true]
 omega
def pk1 (key len:Nat):List Nat:=(((List.replicate 24 255).set 0 (key >>> 8 % 256)).set 1 (key % 256)).set 2 (len % 256)
def pk2 (num:Nat) (b:List Nat) (n:Nat):List Nat:=(List.range n).foldl (fun b i=>b.set (3+i) ((num >>> (24 - 8 * i)) % 256)) b
def pk3 (vs b:List Nat):List Nat:=b.take 7++vs++b.drop (7+vs.length)
def packP (key num:Nat) (vs:List Nat):List Nat:=(pk3 vs (pk2 num (pk1 key vs.length) 4)).set 23 (Yw ((pk3 vs (pk2 num (pk1 key vs.length) 4)).take 23))
theorem Zbz (num:Nat) (b:List Nat) (n:Nat):pk2 num b (n+1)=(pk2 num b n).set (3+n) ((num >>> (24 - 8 * n)) % 256):=by unfold pk2; rw [List.range_succ,List.foldl_append]; rfl
theorem JM (num:Nat) (b:List Nat):∀ n,(pk2 num b n).length=b.length
  | 0=>rfl
  | n+1=>by rw [Zbz,List.length_set,JM num b n]
theorem Zaz (key len:Nat):(pk1 key len).length=24:=by unfold pk1; simp
theorem Zgn {vs b:List Nat} (hb:b.length=24) (hv:vs.length≤16):(pk3 vs b).length=24:=by unfold pk3; simp; omega
theorem XO {key num:Nat} {vs:List Nat} (hv:vs.length≤16):(packP key num vs).length=24:=by unfold packP; rw [List.length_set,Zgn (by rw [JM,Zaz]) hv]
theorem Zo4 (key len:Nat) (hk:key<65536):∀ x∈pk1 key len,x<256:=by
 unfold pk1
 refine Zbx (Zbx (Zbx (fun x hx=>by rw [List.eq_of_mem_replicate hx]; decide) ?_) (Nat.mod_lt _ (by decide))) (Nat.mod_lt _ (by decide))
 exact Nat.mod_lt _ (by decide)
theorem Zld (num:Nat) {b:List Nat} (h:∀ x∈b,x<256):∀ n,∀ x∈pk2 num b n,x<256
  | 0=>h
  | n+1=>by rw [Zbz]; exact Zbx (Zld num h n) (Nat.mod_lt _ (by decide))
theorem pk3_lt {vs b:List Nat} (h:∀ x∈b,x<256) (hv:∀ x∈vs,x<256):∀ x∈pk3 vs b,x<256:=fun x hx=>by
 unfold pk3 at hx
 rcases List.mem_append.1 hx with hx | hx
 ·rcases List.mem_append.1 hx with hx | hx
  ·exact h x (List.mem_of_mem_take hx)
  ·exact hv x hx
 ·exact h x (List.mem_of_mem_drop hx)
end Iv
theorem pack_ok (key num:Nat) (hk:key<65536) (hnum:num<4294967296) (vs:List Nat) (hvs:∀ z∈vs,z<256) (hv:vs.length≤16) (ad:Addr) (ca:Nat) (w0:World) (hsl:OldSl w0 [] (some ad) vs.length 1 (vs.map u8V)):Sp Tryz.prog 190 [.agg #[natV key,.int .u32 (num:Int),.slice (some ad) vs.length ca]] w0 [] (fun v L=>∃ rr cr:Nat,v=.slice (some ⟨rr,0,none⟩) 24 24∧L=[.row 5 1 (some rr) 24 cr ((packP key num vs).map u8V)]):=by
 refine ZC Tryz.func190 rfl Tryz.ntmps190 rfl (Own.refl _) ?_
 simp only [ZV]
 refine Zb<|Za<|Zt (Z6 rfl rfl rfl (fun b1=>?_))
 refine gas rfl rfl<|gA<|Zb<|Za<|Zt (ZQ (sz:=1) rfl rfl (fun _=>J7 _) rfl rfl (fun b5=>?_))
 refine Zt (ZJ rfl (vf:=[]) (vc:=[]) rfl rfl Tryz.call76 (fun w2 ho=>J8 255 24 (rowA (some b5)) 1 w2 (ho.rowSl 0 rfl) (by omega)) ?_)
 rintro _ _ ⟨rr,cr,rfl,rfl⟩
 refine gas rfl rfl<|gA<|Zb<|ZO [1,2] false 19 rfl<|Zc 0 rfl rfl ⟨[1,2],by decide,rfl⟩ (Zf (Zo rfl)) ?_
 refine Zc 1 rfl rfl ⟨[1,2],by decide,rfl⟩ (Zf (Zo rfl)) ?_
 refine Zc 2 rfl rfl ⟨[1,2],by decide,rfl⟩ (Zf (Zo rfl)) ?_
 refine Zc 3 rfl rfl ⟨[1,2],by decide,rfl⟩ (Zf (Zd rfl (XG _))) ?_
 refine Zc 4 rfl rfl ⟨[1,2],by decide,rfl⟩ (Zf (Zi Tryz.underlying3 rfl rfl (by exact Zp 1 rfl rfl))) ?_
 refine Zc 5 rfl rfl ⟨[1,2],by decide,rfl⟩ (Zf (rd_shr (b:=8) rfl rfl (by omega))) ?_
 refine Zc 6 rfl rfl ⟨[1,2],by decide,rfl⟩ (Zf (Xb Tryz.runUnderlying3 Tryz.runUnderlying5 rfl (W6 _))) ?_
 refine Zc 7 rfl rfl ⟨[1,2],by decide,rfl⟩ (Zf (Zd rfl (XG _))) ?_
 refine Zc 8 rfl rfl ⟨[1,2],by decide,rfl⟩ (Zf (Zi Tryz.underlying3 rfl rfl (by exact Zp 1 rfl rfl))) ?_
 refine Zc 9 rfl rfl ⟨[1,2],by decide,rfl⟩ (Zf (Xb Tryz.runUnderlying3 Tryz.runUnderlying5 rfl (W6 _))) ?_
 refine Zc 10 rfl rfl ⟨[1,2],by decide,rfl⟩ (Zf (Zd rfl (Zbs _))) ?_
 refine Zc 11 rfl rfl ⟨[1,2],by decide,rfl⟩ (Zf (Zi Tryz.underlying65 rfl rfl (by exact Zp 1 rfl rfl))) ?_
 refine Zc 12 rfl rfl ⟨[1,2],by decide,rfl⟩ (Zf (ZA Tryz.underlying65 rfl)) ?_
 refine Zc 13 rfl rfl ⟨[1,2],by decide,rfl⟩ (Zf (Xb Tryz.runUnderlying3 Tryz.runUnderlying5 rfl (W6 _))) ?_
 refine Zc 14 rfl rfl ⟨[1,2],by decide,rfl⟩ (Zf (XT Tryz.underlying65 YJ rfl rfl (by omega) (by omega))) ?_
 refine ZK 15 rfl (.inr ⟨[1,2],by decide,rfl⟩) (YB 0 YJ rfl rfl rfl rfl (by simp) (JK (List.replicate 24 255) 0 _) (by rfl) ?_)
 refine Zc 16 rfl rfl ⟨[1,2],by decide,rfl⟩ (Zf (XT Tryz.underlying65 YJ rfl rfl (by omega) (by omega))) ?_
 refine ZK 17 rfl (.inr ⟨[1,2],by decide,rfl⟩) (YB 0 YJ rfl rfl rfl rfl (by simp) (JK _ 1 _) (by rfl) ?_)
 refine Zc 18 rfl rfl ⟨[1,2],by decide,rfl⟩ (Zf (XT Tryz.underlying65 YJ rfl rfl (by omega) (by omega))) ?_
 refine ZK 19 rfl (.inr ⟨[1,2],by decide,rfl⟩) (YB 0 YJ rfl rfl rfl rfl (by simp) (JK _ 2 _) (by rfl) ?_)
 refine ZP (.inl (by kernel_rfl)) ?_
 refine Ze<|Zb<|Zb<|Za<|gm rfl rfl<|gA<|ZB<|ZZ (ι:=Nat) [(1,_),(3,_)] [_,_] (fun j=>j≤4) (fun j Fr0=>((24,natV j)::Fr0)) (fun j Fr0=>(.row 5 1 (some rr) 24 cr ((pk2 num (pk1 key vs.length) j).map u8V)::Fr0)) (fun j=>4 - j) 0 (Nat.zero_le _) ⟨rfl,rfl,rfl,trivial⟩ ⟨[0,1,2],by decide,rfl⟩ ?_
 rintro j hj
 have hj24:(pk2 num (pk1 key vs.length) j).length=24:=by rw [JM,Zaz]
 refine Zb<|Za<|gr rfl (ZX rfl rfl) (Zw (fun h25=>?_) (fun h25=>?_))
 ·refine gA<|Zb<|Zk rfl<|Zv<|Ze<|Zb<|ZB<|Zb<|Za<|gm rfl rfl<|gas rfl rfl<|gA<|Za<|gm rfl rfl<|gm rfl rfl<|gr rfl (by exact ZL (a:=3) rfl rfl (by omega)) ?_
  refine gr rfl (Zd rfl (Wf _))<|gr rfl (Zi Tryz.underlying136 rfl rfl (by exact Zp 2 rfl rfl)) ?_
  refine gm rfl rfl<|gr rfl (by exact XX (a:=8) rfl rfl (by omega)) ?_
  refine gr rfl (by exact Jz (a:=24) rfl rfl (by omega) (by omega)) ?_
  refine gr rfl (Zl0 (b:=24 - 8 * j) rfl rfl hnum (by omega)) ?_
  refine gr rfl (Xb Tryz.runUnderlying136 Tryz.runUnderlying5 rfl (W6 _))<|gr rfl (XT Tryz.underlying65 YJ rfl rfl (by omega) (by omega)) ?_
  refine Zt (YB 0 YJ rfl rfl rfl rfl (by simp; omega) (JK _ (3+j) _) (by rfl) ?_)
  refine ZM<|ZI<|Ze ?_
  rw [← Zbz]
  refine Za<|gr rfl (by exact ZL (b:=1) rfl rfl (by omega)) ?_
  refine gm rfl rfl<|ZM<|Ze ?_
  exact ZR (j+1) ⟨by omega,by omega⟩ ⟨rfl,rfl,rfl,trivial⟩ ⟨[0,1,2],by decide,rfl⟩
 refine gA<|Zb<|Zl rfl<|Z1<|Zs<|Zs<|ZE<|Ze<|Zb ?_
 obtain rfl:j=4:=by omega
 have hp3:(pk3 vs (pk2 num (pk1 key vs.length) 4)).length=24:=Zgn hj24 hv
 have hp3b:=pk3_lt (Zld num (Zo4 key vs.length hk) 4) hvs
 have hzz:=Zby ((pk3 vs (pk2 num (pk1 key vs.length) 4)).take 23)
 rw [List.length_take,hp3] at hzz
 refine ZO [1,2] true 4 rfl<|Zc 0 rfl rfl ⟨[1,2],by decide,rfl⟩ (Zf (Zo rfl)) ?_
 refine Zc 1 rfl rfl ⟨[1,2],by decide,rfl⟩ (Zf (Zaq Tryz.underlying65 YJ rfl rfl (by omega) (by omega))) ?_
 refine Zc 2 rfl rfl ⟨[1,2],by decide,rfl⟩ (Zf (Zd rfl (Zbs _))) ?_
 refine Zc 3 rfl rfl ⟨[1,2],by decide,rfl⟩ (Zf (Zi Tryz.underlying65 rfl rfl (by exact Zp 1 rfl rfl))) ?_
 rw [show Zcq (some ⟨rr,0,none⟩) 24 (Int.toNat 7) 1=some ⟨rr,7,none⟩ from Zbv (by decide)]
 refine ZK 4 rfl (.inr ⟨[1,2],by decide,rfl⟩) (WY 0 7 (cs:=vs.map u8V) (sLen:=vs.length) Tryz.underlying65 YJ rfl rfl rfl rfl (by rw [List.length_map]; exact (Nat.min_eq_left (by omega)).symm) (fun w ho=>(hsl.at ho).cells) (by rw [List.length_map]; omega) (Zkt vs) (by rfl) ?_)
 rw [Zoz,show (pk2 num (pk1 key vs.length) 4).take 7++vs++(pk2 num (pk1 key vs.length) 4).drop (7+vs.length)=pk3 vs (pk2 num (pk1 key vs.length) 4) from rfl]
 refine ZP (.inr ⟨[1,2],by decide,rfl⟩) ?_
 refine Ze<|Zb<|Za<|gm rfl rfl<|gm rfl rfl<|gr rfl (Jg Tryz.underlying65 YJ rfl rfl (by omega) (by omega)) ?_
 refine Zt (ZJ rfl (vf:=[]) (vc:=[]) rfl rfl Tryz.call124 (fun w1 ho=>Zlc (pk3 vs (pk2 num (pk1 key vs.length) 4)) hp3b hp3 (some ⟨rr,0,none⟩) 24 w1 (ho.rowSl 0 rfl)) ?_)
 rintro _ _ ⟨rfl,rfl⟩
 refine gr rfl (Xb Tryz.runUnderlying3 Tryz.runUnderlying5 rfl (JC (by omega))) ?_
 refine gr rfl (XT Tryz.underlying65 YJ rfl rfl (by omega) (by omega)) ?_
 refine Zt (YB 0 YJ rfl rfl rfl rfl (by rw [List.length_map,hp3]; decide) (JK _ 23 _) (by rfl) ?_)
 refine gA<|Zb<|Za<|gm rfl rfl<|gas rfl rfl<|gA<|Zu<|Zy (.inl rfl) Tryz.results190 rfl [0] (by decide) ?_
 exact ⟨rr,cr,rfl,rfl⟩
end Go.Proofs.YthcbcdjkfefnlaaGreatDoor
namespace Go.Proofs.YthcbcdjkfefnlaaGreatDoor
open Go.Gv
open Go.RowKit
namespace Iv
theorem Za0 {w0 w:World} {S:List Nat} {l:List HL} (ho:Own w0 S w l) (i:Nat) (ic:List Nat) {E:TypeId} {sz:Nat} {r:Option Nat} {m cap:Nat} {xs:List Value} (hi:l[i]? = some (.row E sz r m cap xs)) (hn:i ∉ ic):OldSl w ((pick ic l).filterMap HL.block) (rowA r) m sz xs:=by
 have h:=ho.rowSl i hi
 refine ⟨h.len,h.isSome,h.cells,fun hm hb=>?_⟩
 have h2:=h.isSome hm
 cases r with
 | none=>cases h2
 | some g =>
  obtain ⟨y,hy,hyb⟩:=List.mem_filterMap.1 hb
  simp only [pick,List.mem_filterMap] at hy
  obtain ⟨j,hj,hjy⟩:=hy
  have:=W2 ho.nodup hi hjy (b:=g) rfl hyb
  subst this
  exact hn hj
theorem Zc2 (f:Fl):(flFails f).st=f.st∧(flFails f).pr=f.pr∧(flFails f).er=f.er:=by
 unfold flFails
 split
 ·exact ⟨rfl,rfl,rfl⟩
 ·split <;> exact ⟨rfl,rfl,rfl⟩
theorem Zd6 {f:Fl} (h0:-1≤f.left) (h1:f.left≤9223372036854775807):-1≤(flFails f).left∧(flFails f).left≤9223372036854775807:=by
 unfold flFails
 split
 ·exact ⟨h0,h1⟩
 ·split
  ·exact ⟨by simp only; omega,by simp only; omega⟩
  ·exact ⟨h0,h1⟩
theorem Zhx {f:Fl} (h:f.left = -1):(flFails f).left = -1∧(flFails f).down=false:=by
 unfold flFails
 rw [if_neg (by omega),if_neg (by omega)]
 exact ⟨h,rfl⟩
theorem prog_ok {f:Fl} (hf:f.Ok) (hp:f.pr+1<4611686018427387904) {u:Nat} (hu:u<256) (at_:Int):(YO f at_ u).1.Ok∧(YO f at_ u).1.pr≤f.pr+1∧(YO f at_ u).1.b.length=f.b.length∧(YO f at_ u).1.picks.length=f.picks.length∧(YO f at_ u).1.st=f.st:=by
 unfold YO
 split
 ·exact ⟨hf,Nat.le_succ _,rfl,rfl,rfl⟩
 ·obtain ⟨s1,s2,s3⟩:=Zc2 { f with pr:=f.pr+1 }
  obtain ⟨l0,l1⟩:=Zd6 (f:={ f with pr:=f.pr+1 }) hf.l0 hf.l1
  have hpk:=VI { f with pr:=f.pr+1 }
  have hst:=hf.st
  have her:=hf.er
  have hgb:=X4 hf.bs at_.toNat
  have hgp:=X4 hf.ps 0
  unfold Wq
  split
  ·refine ⟨⟨Zbx hf.bs (Nat.lt_of_le_of_lt Nat.and_le_left hgb),by rw [hpk]; exact hf.ps,by simp only [List.length_set]; exact hf.len,by simp only [List.length_set]; exact hf.lo,by simp only [List.length_set]; exact hf.hi,by rw [hpk]; exact hf.pl,?_,?_,?_,l0,l1⟩,?_,by simp only [List.length_set],by rw [hpk],s1⟩
   ·simp only [s2]; exact hp
   ·simp only [s3]; exact her
   ·simp only [s1]; exact hst
   ·simp only [s2]; exact Nat.le_refl _
  ·refine ⟨⟨Zbx hf.bs (Nat.lt_of_le_of_lt Nat.and_le_left hgb),by rw [hpk]; exact hf.ps,by simp only [List.length_set]; exact hf.len,by simp only [List.length_set]; exact hf.lo,by simp only [List.length_set]; exact hf.hi,by rw [hpk]; exact hf.pl,?_,?_,?_,l0,l1⟩,?_,by simp only [List.length_set],by rw [hpk],s1⟩
   ·simp only [s2]; exact hp
   ·simp only [s3]; exact her
   ·simp only [s1]; exact hst
   ·simp only [s2]; exact Nat.le_refl _
theorem prog_no {f:Fl} (hl:f.left = -1) (hd:f.down=false) {k u:Nat} (hk:k<f.b.length):(YO f (k:Int) u).2=0∧(YO f (k:Int) u).1.left = -1∧(YO f (k:Int) u).1.down=false∧(YO f (k:Int) u).1.b=f.b.set k (gB f.b k &&& u):=by
 have hb:Y1 f (k:Int) f.b.length=0:=by unfold Y1; rw [if_neg (by omega),if_neg (by omega),if_neg (by rw [hd]; decide)]
 obtain ⟨n1,n2⟩:=Zhx (f:={ f with pr:=f.pr+1 }) hl
 unfold YO
 rw [if_neg (by rw [hb]; decide),Int.toNat_natCast]
 unfold Wq
 rw [if_pos (by rw [n2]; rfl)]
 exact ⟨rfl,n1,n2,rfl⟩
def Za1 (o:Nat) (bs:List Nat) (s:Fl × Int) (i:Nat):Fl × Int:=if s.2≠0 then s else if gB bs i=255 then s else YO s.1 ((o+i:Nat):Int) (gB bs i)
def XW (f:Fl) (o:Nat) (bs:List Nat) (k:Nat):Fl × Int:=(List.range k).foldl (Za1 o bs) (f,0)
def Ya (f:Fl) (o:Nat) (bs:List Nat):Fl × Int:=XW f o bs bs.length
theorem Za2 (f:Fl) (o:Nat) (bs:List Nat) (k:Nat):XW f o bs (k+1)=Za1 o bs (XW f o bs k) k:=by unfold XW; rw [List.range_succ,List.foldl_append]; rfl
theorem Zqe {f:Fl} {o:Nat} {bs:List Nat} {k:Nat} (h:(XW f o bs k).2≠0):∀ q,XW f o bs (k+q)=XW f o bs k
  | 0=>rfl
  | q+1=>by
    rw [show k+(q+1)=k+q+1 by omega,Za2,Zqe h q]
    unfold Za1
    rw [if_pos h]
theorem wr_no {f:Fl} (hl:f.left = -1) (hd:f.down=false) {o:Nat} {bs:List Nat}:∀ k,o+k≤f.b.length→(XW f o bs k).2=0∧(XW f o bs k).1.left = -1∧(XW f o bs k).1.down=false∧(XW f o bs k).1.b.length=f.b.length
  | 0,_=>⟨rfl,hl,hd,rfl⟩
  | k+1,h=>by
    obtain ⟨a,b,c,d⟩:=wr_no hl hd (o:=o) (bs:=bs) k (by omega)
    rw [Za2]
    unfold Za1
    rw [if_neg (by rw [a]; decide)]
    split
    · exact ⟨a,b,c,d⟩
    · obtain ⟨e1,e2,e3,e4⟩:=prog_no (f:=(XW f o bs k).1) b c (k:=o+k) (u:=gB bs k) (by omega)
      exact ⟨e1,e2,e3,by rw [e4,List.length_set,d]⟩
theorem Zab {f:Fl} (hf:f.Ok) {o:Nat} {bs:List Nat} (hb:∀ z∈bs,z<256):∀ k,f.pr+k<4611686018427387904→(XW f o bs k).1.Ok∧(XW f o bs k).1.pr≤f.pr+k∧(XW f o bs k).1.b.length=f.b.length∧(XW f o bs k).1.picks.length=f.picks.length∧(XW f o bs k).1.st=f.st
  | 0,_=>⟨hf,Nat.le_refl _,rfl,rfl,rfl⟩
  | k+1,h=>by
    obtain ⟨a,b,c,d,e⟩:=Zab hf (o:=o) hb k (by omega)
    rw [Za2]
    unfold Za1
    split
    · exact ⟨a,by omega,c,d,e⟩
    · split
      · exact ⟨a,by omega,c,d,e⟩
      · obtain ⟨p1,p2,p3,p4,p5⟩:=prog_ok a (by omega) (X4 hb k) ((o+k:Nat):Int)
        exact ⟨p1,by omega,by rw [p3,c],by rw [p4,d],by rw [p5,e]⟩
end Iv
end Go.Proofs.YthcbcdjkfefnlaaGreatDoor
namespace Go.Proofs.YthcbcdjkfefnlaaGreatDoor
open Go.Gv
open Go.RowKit
open Iv
theorem Vo (f:Fl) (hf:f.Ok) (bs bf:Nat) (rb:Option Nat) (cb:Nat) (rp:Option Nat) (cp:Nat) (id bm num:Nat) (free:Int) (S:List Nat) (w0:World) (hown:Own w0 S w0 (.blk bs [.bool true,.pointer (some ⟨bf,0,none⟩),natV id,.map (some bm),.int .u32 (num:Nat),.int .i64 free] 138::FlH bf rb cb rp cp f)) (hpr:f.pr+24<4611686018427387904) (bk sl:Nat) (hbk:bk<64) (hsl10:sl<10) (zs:List Nat) (hzs:∀ z∈zs,z<256) (hz24:zs.length=24) (a:Option Addr) (ca:Nat) (hsl:OldSl w0 S a 24 1 (zs.map u8V)):Sp Tryz.prog 189 [.pointer (some ⟨bs,0,none⟩),.agg #[natV bk,natV sl],.slice a 24 ca] w0 S (fun v L=>v=.int .i64 (Ya f (bk * 256+sl * 24) zs).2∧L=.blk bs [.bool true,.pointer (some ⟨bf,0,none⟩),natV id,.map (some bm),.int .u32 (num:Nat),.int .i64 free] 138::FlH bf rb cb rp cp (Ya f (bk * 256+sl * 24) zs).1):=by
 have hbl:=hf.hi
 refine ZC Tryz.func189 rfl Tryz.ntmps189 rfl hown ?_
 simp only [ZV]
 refine Zb<|Za<|Zt (Z6 rfl rfl rfl (fun b4=>?_))
 refine gas rfl rfl<|gA<|Zb<|Zb<|Za<|gm rfl rfl<|gr rfl (ZA Tryz.underlying65 rfl)<|gm rfl rfl<|gA<|ZB<|ZZ (ι:=Nat × Fl) [(0,_),(4,_),(10,_),(11,_)] [_,_] (fun j=>j.1≤24∧XW f (bk * 256+sl * 24) zs j.1=(j.2,0)) (fun j Fr0=>((12,natV j.1)::Fr0)) (fun j Fr0=>(.blk bf (j.2.cells rb cb rp cp) 115 :: .row 5 1 rb j.2.b.length cb (j.2.b.map u8V) :: .row 5 1 rp j.2.picks.length cp (j.2.picks.map u8V)::Fr0)) (fun j=>24 - j.1) (0,f) (⟨Nat.zero_le _,rfl⟩) ⟨rfl,rfl,rfl,rfl,rfl,trivial⟩ ⟨[2,3,4,0,1],by decide,rfl⟩ ?_
 rintro ⟨j,g⟩ ⟨hj,hwr⟩
 simp only at hj hwr ⊢
 obtain ⟨hg,hgp,hgl,_,_⟩:=Zab hf (o:=bk * 256+sl * 24) hzs j (by omega)
 rw [hwr] at hg hgp hgl
 simp only at hg hgp hgl
 refine Zb<|Za<|gr rfl (ZX rfl rfl) (Zw (fun h13=>?_) (fun h13=>?_))
 ·refine gA<|Zb<|Zk rfl<|Zv<|Ze<|Zb<|ZB<|Zb<|Za<|gm rfl rfl<|gr rfl (Z9 hsl Tryz.underlying65 YJ rfl rfl (by omega) (by omega)) ?_
  refine gr rfl (Zi Tryz.underlying5 rfl rfl (YX hsl (XY (Vw (show j<zs.length by omega))))) ?_
  refine gas rfl rfl<|gas rfl rfl<|gA<|Zb<|Zb<|Za<|gm rfl rfl<|gr rfl (Z8 rfl rfl) (Zw (fun h18=>?_) (fun h18=>?_))
  ·have h18n:gB zs j=255:=by omega
   refine gA<|Zk rfl<|Z1<|Zs<|ZE<|Ze<|Za<|gr rfl (by exact ZL (b:=1) rfl rfl (by omega)) ?_
   refine gm rfl rfl<|ZM<|Ze ?_
   exact ZR ((j+1,g)) ⟨⟨by simp only; omega,by simp only; rw [Za2,hwr]; unfold Za1; rw [if_neg (fun h=>h rfl),if_pos h18n]⟩,by simp only; omega⟩ ⟨rfl,rfl,rfl,rfl,rfl,trivial⟩ ⟨[0,1,2,3,4],by decide,rfl⟩
  have h18n:¬ gB zs j=255:=by omega
  have hstep:XW f (bk * 256+sl * 24) zs (j+1)=YO g ((bk * 256+sl * 24+j:Nat):Int) (gB zs j):=by rw [Za2,hwr]; unfold Za1; rw [if_neg (fun h=>h rfl),if_neg h18n]
  refine gA<|Zl rfl<|Zv<|Ze<|Zb<|ZO [3,4] true 15 rfl<|Zc 0 rfl rfl ⟨[3,4],by decide,rfl⟩ (Zf (Zo rfl)) ?_
  refine Zc 1 rfl rfl ⟨[3,4],by decide,rfl⟩ (Zf (ZN rfl)) ?_
  refine Zc 2 rfl rfl ⟨[3,4],by decide,rfl⟩ (Zf (Zd rfl (X3 _))) ?_
  refine Zc 3 rfl rfl ⟨[3,4],by decide,rfl⟩ (Zf (Zi Tryz.underlying32 rfl rfl (by exact Zp 1 rfl rfl))) ?_
  refine Zc 4 rfl rfl ⟨[3,4],by decide,rfl⟩ (Zf (Zd rfl (Zdw _))) ?_
  refine Zc 5 rfl rfl ⟨[3,4],by decide,rfl⟩ (Zf (Zi Tryz.underlying3 rfl rfl (by exact Zp 0 rfl rfl))) ?_
  refine Zc 6 rfl rfl ⟨[3,4],by decide,rfl⟩ (Zf (by exact XX (b:=256) rfl rfl (by omega))) ?_
  refine Zc 7 rfl rfl ⟨[3,4],by decide,rfl⟩ (Zf (Zd rfl (Zdx _))) ?_
  refine Zc 8 rfl rfl ⟨[3,4],by decide,rfl⟩ (Zf (Zi Tryz.underlying3 rfl rfl (by exact Zp 0 rfl rfl))) ?_
  refine Zc 9 rfl rfl ⟨[3,4],by decide,rfl⟩ (Zf (by exact XX (b:=24) rfl rfl (by omega))) ?_
  refine Zc 10 rfl rfl ⟨[3,4],by decide,rfl⟩ (Zf (by exact ZL rfl rfl (by omega))) ?_
  refine Zc 11 rfl rfl ⟨[3,4],by decide,rfl⟩ (Zf (Zo rfl)) ?_
  refine Zc 12 rfl rfl ⟨[3,4],by decide,rfl⟩ (Zf (by exact ZL rfl rfl (by omega))) ?_
  refine Zc 13 rfl rfl ⟨[3,4],by decide,rfl⟩ (Zf (Zo rfl)) ?_
  refine ZK 14 rfl (.inr ⟨[3,4],by decide,rfl⟩) (Yi [0,1,2] [3,4] rfl (vf:=[]) (vc:=[]) rfl rfl Tryz.call15 (by decide) rfl (fun w how hc=>Zo0 g hg bf rb cb rp cp _ w hc ((bk * 256+sl * 24+j:Nat):Int) (gB zs j) (X4 hzs j)) ?_)
  rintro _ _ ⟨rfl,rfl⟩
  refine Zc 15 rfl rfl ⟨[3,4],by decide,rfl⟩ (Zf (ZY rfl)) ?_
  refine ZP (.inr ⟨[3,4],by decide,rfl⟩) ?_
  refine Ze<|Zb<|Za<|gm rfl rfl<|gr rfl (Z4 rfl rfl) (Zw (fun h35=>?_) (fun h35=>?_))
  ·refine gA<|Zk rfl<|Zb<|Za<|gm rfl rfl<|gas rfl rfl<|gA<|Zu<|Zx<|Zh<|Zh<|Zx<|Zh<|Zy (.inl rfl) Tryz.results189 rfl [4,0,1,2] (by decide) ?_
   have hw:Ya f (bk * 256+sl * 24) zs=YO g ((bk * 256+sl * 24+j:Nat):Int) (gB zs j):=by
    have h:=Zqe (f:=f) (o:=bk * 256+sl * 24) (bs:=zs) (k:=j+1) (by rw [hstep]; exact h35) (zs.length - (j+1))
    rw [show j+1+(zs.length - (j+1))=zs.length by omega] at h
    unfold Ya
    rw [h,hstep]
   rw [hw]
   exact ⟨rfl,rfl⟩
  refine gA<|Zl rfl<|Zv<|ZI<|Ze<|Za<|gr rfl (by exact ZL (b:=1) rfl rfl (by omega)) ?_
  refine gm rfl rfl<|ZM<|Ze ?_
  exact ZR ((j+1,(YO g ((bk * 256+sl * 24+j:Nat):Int) (gB zs j)).1)) ⟨⟨by simp only; omega,by simp only; rw [hstep]; exact Prod.ext rfl (by simp only; omega)⟩,by simp only; omega⟩ ⟨rfl,rfl,rfl,rfl,rfl,trivial⟩ ⟨[0,1,2,3,4],by decide,rfl⟩
 refine gA<|Zb<|Zl rfl<|Z1<|Zs<|Zs<|ZE<|Ze<|Zb<|Za<|gas rfl rfl<|gA<|Zu<|Zy (.inl rfl) Tryz.results189 rfl [4,0,1,2] (by decide) ?_
 have hw:Ya f (bk * 256+sl * 24) zs=(g,0):=by unfold Ya; rw [← hwr,show j=zs.length by omega]
 rw [hw]
 exact ⟨rfl,rfl⟩
namespace Iv
section
variable {dm:List Deferred} {P:Program} {n:Nat} {e:Env} {w0:World} {S:List Nat} {l:List HL} {dst:Option Tmp} {ty:TypeId} {pos:String} {aft:Array Edge} {gd:Option (Nat × Bool)} {x y:Operand} {t ty':TypeId}
theorem Wh {a b:Nat} (hx:e.ev x=some (.int .u32 a)) (hy:e.ev y=some (.int .u32 b)) (h:a+b<4294967296):Rd P dm n e w0 S l ⟨dst,.binOp .add t x y ty',ty,pos,aft,gd⟩ (.int .u32 ((a+b:Nat):Int)):=by
 have h1:=Zpw (dm:=dm) (P:=P) (n:=n) (w0:=w0) (S:=S) (l:=l) (dst:=dst) (ty:=ty) (pos:=pos) (aft:=aft) (gd:=gd) (t:=t) (ty':=ty') hx hy
 rwa [show ((a:Int)+(b:Int))=((a+b:Nat):Int) by push_cast; rfl,V0 h] at h1
end
theorem WE {key num:Nat} (hk:key<65536) {vs:List Nat} (hvs:∀ z∈vs,z<256) (hv:vs.length≤16):∀ z∈packP key num vs,z<256:=by
 unfold packP
 have h3:=pk3_lt (Zld num (Zo4 key vs.length hk) 4) hvs
 have hz:=Zby ((pk3 vs (pk2 num (pk1 key vs.length) 4)).take 23)
 rw [List.length_take,Zgn (by rw [JM,Zaz]) hv] at hz
 exact Zbx h3 (by omega)
end Iv
namespace Iv
structure En where
  key:Nat
  num:Nat
  val:List Nat
  bk:Nat
  sl:Nat
  deriving Inhabited,DecidableEq
structure He where
  en:En
  r:Option Nat
  c:Nat
  deriving Inhabited
abbrev HV (h:He):Value:=.agg #[natV h.en.key,.int .u32 (h.en.num:Int),.slice (rowA h.r) h.en.val.length h.c,natV h.en.bk,natV h.en.sl]
def He.row (h:He):HL:=.row 5 1 h.r h.en.val.length h.c (h.en.val.map u8V)
structure EnOk (x:En):Prop where
  key:x.key≤999
  num:x.num<4294967296
  len:x.val.length≤16
  val:∀ z∈x.val,z<256
  bk:x.bk<64
  sl:x.sl<10
abbrev plain (m:List (ME He)):List En:=m.map fun x=>x.v.en
def YY (k:Nat):List En→Option En
  | []=>none
  | y::l=>if k=y.key then some y else YY k l
def Za3 (x:En):List En→List En
  | []=>[x]
  | y::l=>if x.key=y.key then x::l else y::Za3 x l
structure MSt (m:List (ME He)) (nb:Nat) (T:List HL):Prop where
  ok:MOk m nb
  key:∀ x∈m,x.key=(x.v.en.key:Int)
  row:∀ x∈m,x.v.row∈T
  en:∀ x∈m,EnOk x.v.en
theorem mst_nil (T:List HL):MSt [] 0 T:=⟨MOk.nil,(fun _ h=>by cases h),(fun _ h=>by cases h),(fun _ h=>by cases h)⟩
theorem Zle (k:Nat):∀ {m:List (ME He)},(∀ x∈m,x.key=(x.v.en.key:Int))→YY k (plain m)=(Wz (k:Int) m).map He.en
  | [],_=>rfl
  | y::l,h=>by
    have hy:=h y List.mem_cons_self
    have ih:=Zle k (m:=l) fun x hx=>h x (List.mem_cons_of_mem _ hx)
    simp only [plain,List.map_cons,YY,Wz,hy] at ih ⊢
    by_cases e:k=y.v.en.key
    · rw [if_pos e,if_pos (by rw [e])]; rfl
    · rw [if_neg e,if_neg (by omega)]; exact ih
theorem WH (x:He) (nb:Nat):∀ {m:List (ME He)},(∀ y∈m,y.key=(y.v.en.key:Int))→plain (WL (x.en.key:Int) x nb m)=Za3 x.en (plain m)
  | [],_=>rfl
  | y::l,h=>by
    have hy:=h y List.mem_cons_self
    have ih:=WH x nb (m:=l) fun z hz=>h z (List.mem_cons_of_mem _ hz)
    simp only [plain,List.map_cons,Za3,WL,hy] at ih ⊢
    by_cases e:x.en.key=y.v.en.key
    · rw [if_pos e,if_pos (by rw [e])]; rfl
    · rw [if_neg e,if_neg (by omega),List.map_cons,ih]
theorem MSt.put {m:List (ME He)} {nb:Nat} {T:List HL} (h:MSt m nb T) (x:He) (hx:EnOk x.en) {T':List HL} (hT:∀ y∈T,y∈T') (hr:x.row∈T'):MSt (WL (x.en.key:Int) x nb m) (mnb (x.en.key:Int) m nb) T':=by
 refine ⟨h.ok.put _ _,fun y hy=>?_,fun y hy=>?_,fun y hy=>?_⟩ <;> rcases mput_mem hy with ⟨e1,e2⟩ | hy
 ·rw [e1,e2]
 ·exact h.key y hy
 ·rw [e1]; exact hr
 ·exact hT _ (h.row y hy)
 ·rw [e1]; exact hx
 ·exact h.en y hy
theorem MSt.mono {m:List (ME He)} {nb:Nat} {T T':List HL} (h:MSt m nb T) (hT:∀ y∈T,y∈T'):MSt m nb T':=⟨h.ok,h.key,fun y hy=>hT _ (h.row y hy),h.en⟩
theorem MSt.get {m:List (ME He)} {nb:Nat} {T:List HL} (h:MSt m nb T) {k:Nat} {x:He} (hg:Wz (k:Int) m=some x):EnOk x.en∧x.row∈T∧x.en.key=k∧YY k (plain m)=some x.en:=by
 obtain ⟨b,hb⟩:=Zl2 hg
 have:=h.key _ hb
 simp only at this
 exact ⟨h.en _ hb,h.row _ hb,by omega,by rw [Zle k h.key,hg]; rfl⟩
theorem MSt.none {m:List (ME He)} {nb:Nat} {T:List HL} (h:MSt m nb T) {k:Nat} (hg:Wz (k:Int) m=none):YY k (plain m)=none:=by
 rw [Zle k h.key,hg]; rfl
def slotB (b:List Nat) (bk sl:Nat):List Nat:=(b.drop (bk * 256+sl * 24)).take 24
def enB (b:List Nat) (bk sl:Nat):En:=⟨keyP (slotB b bk sl),numTo (slotB b bk sl) 4,Xn (slotB b bk sl),bk,sl⟩
def XI (x:En) (P:List En):Bool:=match YY x.key P with | some o=>decide (o.num<x.num) | none=>true
def VU (b:List Nat) (but:Int) (bk:Nat) (s:Nat × List En) (sl:Nat):Nat × List En :=
  if W1 (slotB b bk sl)=true∨(bk:Int)=but then s else (max s.1 (enB b bk sl).num,if XI (enB b bk sl) s.2 then Za3 (enB b bk sl) s.2 else s.2)
def WW (b:List Nat) (but:Int) (bk:Nat) (s:Nat × List En) (k:Nat):Nat × List En:=(List.range k).foldl (VU b but bk) s
def Zgd (b:List Nat) (but:Int) (num:Nat) (k:Nat):Nat × List En:=(List.range k).foldl (fun s bk=>WW b but bk s 10) (num,[])
def VQ (b:List Nat) (but:Int) (num:Nat):Nat × List En:=Zgd b but num (b.length / 256)
theorem Xo (b:List Nat) (but:Int) (bk:Nat) (s:Nat × List En) (k:Nat):WW b but bk s (k+1)=VU b but bk (WW b but bk s k) k:=by unfold WW; rw [List.range_succ,List.foldl_append]; rfl
theorem Zac (b:List Nat) (but:Int) (num k:Nat):Zgd b but num (k+1)=WW b but k (Zgd b but num k) 10:=by unfold Zgd; rw [List.range_succ,List.foldl_append,List.foldl_cons,List.foldl_nil]
theorem VR {b:List Nat} {bk sl:Nat} (h:bk * 256+sl * 24+24≤b.length):(slotB b bk sl).length=24:=by unfold slotB; simp; omega
theorem VJ {b:List Nat} (hb:∀ z∈b,z<256) (bk sl:Nat):∀ z∈slotB b bk sl,z<256:=fun z hz=>hb z (List.mem_of_mem_drop (List.mem_of_mem_take hz))
theorem Zo5 {b:List Nat} (hb:∀ z∈b,z<256) {bk sl:Nat} (h:bk * 256+sl * 24+24≤b.length) (hbk:bk<64) (hsl:sl<10) (hg:W1 (slotB b bk sl)=false):EnOk (enB b bk sl):=by
 have hl:=VJ hb bk sl
 unfold W1 at hg
 simp only [Bool.or_eq_false_iff,decide_eq_false_iff_not] at hg
 have hk:keyP (slotB b bk sl)≤999:=by omega
 have hn:numTo (slotB b bk sl) 4<4294967296:=Zlb hl (Nat.le_refl 4)
 refine ⟨hk,hn,?_,fun z hz=>hl z (List.mem_of_mem_drop (List.mem_of_mem_take hz)),hbk,hsl⟩
 simp only [enB,Xn,List.length_take]
 omega
theorem JN {b:List Nat} {but:Int} {bk sl:Nat} {s:Nat × List En} (h:W1 (slotB b bk sl)=true∨(bk:Int)=but):VU b but bk s sl=s:=by unfold VU; rw [if_pos h]
theorem Vy {b:List Nat} {but:Int} {bk sl:Nat} {s:Nat × List En} (h:W1 (slotB b bk sl)=false) (h2:(bk:Int)≠but):VU b but bk s sl=(max s.1 (enB b bk sl).num,if XI (enB b bk sl) s.2 then Za3 (enB b bk sl) s.2 else s.2):=by
 unfold VU; rw [if_neg (by rw [h]; simp [h2])]
def XP (b:List Nat) (P:List En) (bk sl:Nat):Bool:=W1 (slotB b bk sl) || !XI (enB b bk sl) P
def Zb0 (b:List Nat) (P:List En) (bk:Nat):Bool:=(List.range 10).all (XP b P bk)
end Iv
theorem Zb1 (zs:List Nat) (hz:∀ z∈zs,z<256) (hlen:zs.length=24) (a:Option Addr) (ca:Nat) (hca:24≤ca) (w0:World) (hsl:OldSl w0 [] a 24 1 (zs.map u8V)) (hb:W1 zs=false):Sp Tryz.prog 107 [.slice a 24 ca] w0 [] (fun v L=>∃ (r:Option Nat) (c:Nat),v=.tuple #[.agg #[natV (keyP zs),.int .u32 (numTo zs 4:Nat),.slice (rowA r) (Xn zs).length c],.bool true]∧L=[.row 5 1 r (Xn zs).length c ((Xn zs).map u8V)]):=by
 refine (Zjs zs hz hlen a ca hca w0 hsl).mono ?_
 rintro v L (⟨h,_⟩ | ⟨_,h⟩)
 ·rw [hb] at h; cases h
 ·exact h
section
variable {dm:List Deferred} {P:Program} {n:Nat} {e:Env} {w0:World} {S:List Nat} {l:List HL} {dst:Option Nat} {ty:TypeId} {pos:String} {aft:Array Edge} {gd:Option (Nat × Bool)}
theorem Zqf {x y:Operand} {k:IntKind} {p q:Nat} {ats:Array TypeId} (hx:e.ev x=some (.int k (p:Int))) (hy:e.ev y=some (.int k (q:Int))) :
    Rd P dm n e w0 S l ⟨dst,.call { callee:=.builtin .max,args:=#[x,y],argTypes:=ats },ty,pos,aft,gd⟩ (.int k ((max p q:Nat):Int)):=by
  have h:=rd_max2 (dm:=dm) (P:=P) (n:=n) (e:=e) (w0:=w0) (S:=S) (l:=l) (dst:=dst) (ty:=ty) (pos:=pos) (aft:=aft) (gd:=gd) (ats:=ats) hx hy
  rw [show ((max p q:Nat):Int)=max (p:Int) (q:Int) by omega]
  exact h
end
theorem Zlf (f:Fl) (hf:f.Ok) (bs bf:Nat) (rb:Option Nat) (cb:Nat) (rp:Option Nat) (cp:Nat) (id num:Nat) (mv:Option Nat) (free but:Int) (S:List Nat) (w0:World) (hown:Own w0 S w0 (.blk bs [.bool true,.pointer (some ⟨bf,0,none⟩),natV id,.map mv,.int .u32 (num:Nat),.int .i64 free] 138::FlH bf rb cb rp cp f)) (hnum:num<4294967296):Sp Tryz.prog 70 [.pointer (some ⟨bs,0,none⟩),.int .i64 but] w0 S (fun v L=>∃ (bm:Nat) (m:List (ME He)) (nb:Nat) (T:List HL) (num2:Nat),v=.tuple #[]∧MSt m nb T∧(num2,plain m)=VQ f.b but num∧num2<4294967296∧L=(.blk bs [.bool true,.pointer (some ⟨bf,0,none⟩),natV id,.map (some bm),.int .u32 ((num2:Nat):Int),.int .i64 free] 138 :: .obj bm (X0 HV m nb)::(FlH bf rb cb rp cp f++T))):=by
 have hbl:=hf.hi
 have hbl0:=hf.lo
 have hblm:=hf.len
 obtain ⟨gb,rfl,hcb⟩:=Zbw (hown.holds (.row 5 1 rb f.b.length cb (f.b.map u8V)) (by simp)) (by omega)
 refine ZC Tryz.func70 rfl Tryz.ntmps70 rfl hown ?_
 simp only [ZV]
 refine Zb<|Za<|gm rfl rfl<|Zt (Zfp rfl (fun b12=>?_))
 refine gnc rfl rfl<|gr rfl (Zd rfl (YG _))<|Zt (Yc 1 ty_135 rfl rfl rfl rfl rfl (by rfl) (by rfl) ?_)
 refine gA<|Zb<|Za<|gm rfl rfl<|gnc rfl rfl<|gr rfl (Zd rfl (X3 _))<|gr rfl (Zi Tryz.underlying32 rfl rfl (by exact Zp 1 rfl rfl)) ?_
 refine Zt (ZJ rfl (vf:=[]) (vc:=[]) rfl rfl Tryz.call41 (fun w1 ho=>Zaa f hf bf (some gb) cb rp cp w1 (ho.blkCells 2 rfl)) ?_)
 rintro _ _ ⟨rfl,rfl⟩
 refine gm rfl rfl<|gA<|ZB<|ZZ (ι:=Nat × Nat × List (ME He) × Nat × List HL) [(0,_),(1,_),(19,_)] [_,_,_] (fun j=>j.1≤f.b.length / 256∧MSt j.2.2.1 j.2.2.2.1 j.2.2.2.2∧(j.2.1,plain j.2.2.1)=Zgd f.b but num j.1∧j.2.1<4294967296) (fun j Fr0=>((20,natV j.1)::Fr0)) (fun j Fr0=>(.blk bs [.bool true,.pointer (some ⟨bf,0,none⟩),natV id,.map (some b12),.int .u32 ((j.2.1:Nat):Int),.int .i64 free] 138 :: .obj b12 (X0 HV j.2.2.1 j.2.2.2.1)::(Fr0++j.2.2.2.2))) (fun j=>f.b.length / 256 - j.1) (0,num,[],0,[]) (⟨Nat.zero_le _,mst_nil _,rfl,hnum⟩) ⟨rfl,rfl,rfl,rfl,trivial⟩ ⟨[1,0,2,3,4],by decide,rfl⟩ ?_
 rintro ⟨j,nu,m,nb,T⟩ ⟨hj,hms,hsc,hnu⟩
 simp only at hj hms hsc hnu ⊢
 refine Zb<|Za<|gr rfl (ZX rfl rfl) (Zw (fun h21=>?_) (fun h21=>?_))
 ·obtain ⟨s0,hs0⟩:∃ s0,Zgd f.b but num j=s0:=⟨_,rfl⟩
  rw [hs0] at hsc
  have hsc0:=hs0.symm
  refine gA<|Zb<|Zk rfl<|Zv<|Ze<|Zb<|ZB<|Zb<|Za<|gm rfl rfl<|gas rfl rfl<|gA<|Zb<|Za<|gm rfl rfl<|gA<|ZB<|ZZ (ι:=Nat × Nat × List (ME He) × Nat × List HL) [(0,_),(1,_),(4,_),(19,_),(20,_)] [_,_,_] (fun i=>i.1≤10∧MSt i.2.2.1 i.2.2.2.1 i.2.2.2.2∧(i.2.1,plain i.2.2.1)=WW f.b but j s0 i.1∧i.2.1<4294967296) (fun i Fr0=>((23,natV i.1)::Fr0)) (fun i Fr0=>(.blk bs [.bool true,.pointer (some ⟨bf,0,none⟩),natV id,.map (some b12),.int .u32 ((i.2.1:Nat):Int),.int .i64 free] 138 :: .obj b12 (X0 HV i.2.2.1 i.2.2.2.1)::(Fr0++i.2.2.2.2))) (fun i=>10 - i.1) (0,nu,m,nb,T) (⟨Nat.zero_le _,hms,hsc,hnu⟩) ⟨rfl,rfl,rfl,rfl,rfl,rfl,trivial⟩ (YL 0 rfl) ?_
  rintro ⟨q,nu,m,nb,T⟩ ⟨hq,hms,hsc,hnu⟩
  simp only at hq hms hsc hnu ⊢
  refine Zb<|Za<|gr rfl (ZX rfl rfl) (Zw (fun h24=>?_) (fun h24=>?_))
  ·obtain ⟨zs,hzs⟩:∃ zs,slotB f.b j q=zs:=⟨_,rfl⟩
   have hzl:zs.length=24:=by rw [← hzs]; exact VR (by omega)
   have hz8:∀ z∈zs,z<256:=by rw [← hzs]; exact VJ hf.bs j q
   rcases hbd:W1 zs with _ | _
   ·refine gA<|Zb<|Zk rfl<|Zv<|Ze<|Zb<|ZB<|Zb<|Za<|gm rfl rfl<|gas rfl rfl<|gA<|Zb<|Za<|gm rfl rfl<|gm rfl rfl<|gr rfl (ZT rfl (fun _=>Jp _ _)) ?_
    refine Zt (ZU Yq rfl rfl (fun b6=>?_))
    refine Zt (Zz 0 Yq rfl rfl rfl rfl rfl rfl (by rfl) ?_)
    refine gA<|Zb<|ZO [0,1,2,3,4,5] false 12 rfl<|Zc 0 rfl rfl ⟨[0,1,2,3,4,5],by decide,rfl⟩ (Zf (Zo rfl)) ?_
    refine Zc 1 rfl rfl ⟨[0,1,2,3,4,5],by decide,rfl⟩ (Zf (ZN rfl)) ?_
    refine Zc 2 rfl rfl ⟨[0,1,2,3,4,5],by decide,rfl⟩ (Zf (Zd rfl (X3 _))) ?_
    refine Zc 3 rfl rfl ⟨[0,1,2,3,4,5],by decide,rfl⟩ (Zf (Zi Tryz.underlying32 rfl rfl (by exact Zp 1 rfl rfl))) ?_
    refine Zc 4 rfl rfl ⟨[0,1,2,3,4,5],by decide,rfl⟩ (Zf (Zr Tryz.underlying182 rfl Yq rfl (by exact ZH 0 (off:=0) (k:=2) rfl rfl) rfl)) ?_
    refine Zc 5 rfl rfl ⟨[0,1,2,3,4,5],by decide,rfl⟩ (YE (vf:=[]) (vc:=[]) rfl rfl Tryz.call108 (fun w1 ho=>Zhv f hf bf gb cb rp cp w1 (ho.blkCells 3 rfl) hcb j q (by omega)) (by rintro _ _ ⟨h,_⟩; exact h)) ?_
    refine Zap 6 10 (Gv.bm 13 127) (Gv.bm 13 1087) rfl rfl rfl rfl (by kernel_rfl) (by kernel_rfl) (by kernel_rfl) (.inr ⟨[0,1,2,3,4,5],by decide,rfl⟩) ?_ ?_
    ·refine (ZJ rfl (vf:=[]) (vc:=[]) rfl rfl Tryz.call107 (fun w1 ho=>Zb1 zs hz8 hzl (some ⟨gb,j * 256+q * 24,none⟩) (cb - (j * 256+q * 24)) (by omega) w1 (by rw [← hzs]; unfold slotB; rw [← JL]; exact Zc1 (ho.rowSl 4 rfl) (j * 256+q * 24) 24 (by omega)) hbd) ?_)
     rintro _ _ ⟨rx,cx,rfl,rfl⟩
     refine Zc 7 rfl rfl ⟨[1,2,3,4,5,6],by decide,rfl⟩ (Zf (Zo rfl)) ?_
     refine Zc 8 rfl rfl ⟨[1,2,3,4,5,6],by decide,rfl⟩ (Zf (ZD rfl rfl)) ?_
     refine Zc 9 rfl rfl ⟨[1,2,3,4,5,6],by decide,rfl⟩ (Zf (ZD rfl rfl)) ?_
     refine ZK 10 rfl (.inr ⟨[1,2,3,4,5,6],by decide,rfl⟩) (ZU Yl rfl rfl (fun b7=>?_))
     refine ZK 11 rfl (.inr ⟨[2,3,4,5,6,7],by decide,rfl⟩) (Zz 0 Yl rfl rfl rfl rfl rfl rfl (by rfl) ?_)
     refine ZK 12 rfl (.inr ⟨[2,3,4,5,6,7],by decide,rfl⟩) (Zm rfl (ZY rfl) ?_)
     refine ZP (.inl (by kernel_rfl)) ?_
     refine Ze<|Zb<|Zb<|Za<|gm rfl rfl<|gr rfl (rd_not rfl)<|gm rfl rfl<|Zg rfl rfl<|Zm rfl (Zo rfl)<|Zg rfl rfl<|Zm rfl (Zo rfl)<|Zg rfl rfl (Zm rfl (Z8 rfl rfl) (Zw (fun h44=>?_) (fun h44=>?_)))
     ·refine gr rfl (Zn rfl rfl)<|gA<|Zk rfl<|Z1<|Zs<|ZE<|Ze<|Za<|gr rfl (by exact ZL (b:=1) rfl rfl (by omega)) ?_
      refine gm rfl rfl<|ZM<|Ze ?_
      exact ZR ((q+1,nu,m,nb,T)) ⟨⟨by simp only; omega,hms,by simp only; rw [Xo,← hsc,JN (.inr h44)],hnu⟩,by simp only; omega⟩ ⟨rfl,rfl,rfl,rfl,rfl,rfl,trivial⟩ (YL 3 rfl)
     have hn4:numTo zs 4<4294967296:=Zlb hz8 (Nat.le_refl 4)
     have heo:EnOk ⟨keyP zs,numTo zs 4,Xn zs,j,q⟩:=by have:=Zo5 hf.bs (bk:=j) (sl:=q) (by omega) (by omega) (by omega) (by rw [hzs]; exact hbd); unfold enB at this; rw [hzs] at this; exact this
     refine gr rfl (Zn rfl rfl)<|gA<|Zl rfl<|Zv<|Ze<|Zb<|ZO [0,1,2,3,4,5,6,7] false 10 rfl<|Zc 0 rfl rfl ⟨[0,1,2,3,4,5,6,7],by decide,rfl⟩ (Zf (Zo rfl)) ?_
     refine Zc 1 rfl rfl ⟨[0,1,2,3,4,5,6,7],by decide,rfl⟩ (Zf (Zo rfl)) ?_
     refine Zc 2 rfl rfl ⟨[0,1,2,3,4,5,6,7],by decide,rfl⟩ (Zf (ZN rfl)) ?_
     refine Zc 3 rfl rfl ⟨[0,1,2,3,4,5,6,7],by decide,rfl⟩ (Zf (Zd rfl (YQ _))) ?_
     refine Zc 4 rfl rfl ⟨[0,1,2,3,4,5,6,7],by decide,rfl⟩ (Zf (Zi Tryz.underlying136 rfl rfl (by exact Zp 3 rfl rfl))) ?_
     refine Zc 5 rfl rfl ⟨[0,1,2,3,4,5,6,7],by decide,rfl⟩ (Zf (Zd rfl (Wf _))) ?_
     refine Zc 6 rfl rfl ⟨[0,1,2,3,4,5,6,7],by decide,rfl⟩ (Zf (Zi Tryz.underlying136 rfl rfl (by exact Zp 0 rfl rfl))) ?_
     refine Zc 7 rfl rfl ⟨[0,1,2,3,4,5,6,7],by decide,rfl⟩ (Zf (Zqf rfl rfl)) ?_
     refine ZK 8 rfl (.inr ⟨[0,1,2,3,4,5,6,7],by decide,rfl⟩) (Zm rfl (ZN rfl) ?_)
     refine Zc 9 rfl rfl ⟨[0,1,2,3,4,5,6,7],by decide,rfl⟩ (Zf (Zd rfl (YQ _))) ?_
     refine ZK 10 rfl (.inr ⟨[0,1,2,3,4,5,6,7],by decide,rfl⟩) (Yc 3 Jm rfl rfl rfl rfl rfl (by rfl) (by rfl) ?_)
     refine ZP (.inl (by kernel_rfl)) ?_
     refine Ze<|Zb ?_
     rcases hg:Wz ((keyP zs:Nat):Int) m with _ | o
     ·refine ZO [0,1,2,3,4,5,6,7] false 12 rfl<|Zc 0 rfl rfl ⟨[0,1,2,3,4,5,6,7],by decide,rfl⟩ (Zf (Zo rfl)) ?_
      refine Zc 1 rfl rfl ⟨[0,1,2,3,4,5,6,7],by decide,rfl⟩ (Zf (ZN rfl)) ?_
      refine Zc 2 rfl rfl ⟨[0,1,2,3,4,5,6,7],by decide,rfl⟩ (Zf (Zd rfl (YG _))) ?_
      refine Zc 3 rfl rfl ⟨[0,1,2,3,4,5,6,7],by decide,rfl⟩ (Zf (Zi Tryz.underlying135 rfl rfl (by exact Zp 3 rfl rfl))) ?_
      refine Zc 4 rfl rfl ⟨[0,1,2,3,4,5,6,7],by decide,rfl⟩ (Zf (Zd rfl (XG _))) ?_
      refine Zc 5 rfl rfl ⟨[0,1,2,3,4,5,6,7],by decide,rfl⟩ (Zf (Zi Tryz.underlying3 rfl rfl (by exact Zp 0 rfl rfl))) ?_
      refine Zc 6 rfl rfl ⟨[0,1,2,3,4,5,6,7],by decide,rfl⟩ (Zf (XK 4 HV rfl Tryz.underlying135 Tryz.underlying3 Y3 rfl rfl)) ?_
      refine Zc 7 rfl rfl ⟨[0,1,2,3,4,5,6,7],by decide,rfl⟩ (Zf (Zo rfl)) ?_
      refine Zc 8 rfl rfl ⟨[0,1,2,3,4,5,6,7],by decide,rfl⟩ (Zf (ZD rfl rfl)) ?_
      refine Zc 9 rfl rfl ⟨[0,1,2,3,4,5,6,7],by decide,rfl⟩ (Zf (ZD rfl rfl)) ?_
      refine ZK 10 rfl (.inr ⟨[0,1,2,3,4,5,6,7],by decide,rfl⟩) (ZU Y3 rfl rfl (fun b9=>?_))
      rw [hg,Option.map_none,Option.getD_none,Option.isSome_none]
      refine ZK 11 rfl (.inr ⟨[1,2,3,4,5,6,7,8],by decide,rfl⟩) (Zz 0 Y3 rfl rfl rfl rfl rfl rfl (by rfl) ?_)
      refine ZK 12 rfl (.inr ⟨[1,2,3,4,5,6,7,8],by decide,rfl⟩) (Zm rfl (ZY rfl) ?_)
      refine ZP (.inl (by kernel_rfl)) ?_
      refine Ze<|Zb<|Za<|gm rfl rfl<|gr rfl (rd_not rfl)<|gm rfl rfl<|Zj rfl rfl rfl<|Zj rfl rfl rfl<|Zj rfl rfl rfl<|Zj rfl rfl rfl<|Zj rfl rfl rfl<|Zj rfl rfl rfl<|gr rfl (Zq rfl rfl)<|gA<|Zk rfl<|ZO [0,1,2,3,4,5,6,7,8] false 9 rfl<|Zc 0 rfl rfl ⟨[0,1,2,3,4,5,6,7,8],by decide,rfl⟩ (Zf (Zo rfl)) ?_
      refine Zc 1 rfl rfl ⟨[0,1,2,3,4,5,6,7,8],by decide,rfl⟩ (Zf (ZN rfl)) ?_
      refine Zc 2 rfl rfl ⟨[0,1,2,3,4,5,6,7,8],by decide,rfl⟩ (Zf (Zd rfl (YG _))) ?_
      refine Zc 3 rfl rfl ⟨[0,1,2,3,4,5,6,7,8],by decide,rfl⟩ (Zf (Zi Tryz.underlying135 rfl rfl (by exact Zp 4 rfl rfl))) ?_
      refine Zc 4 rfl rfl ⟨[0,1,2,3,4,5,6,7,8],by decide,rfl⟩ (Zf (Zd rfl (XG _))) ?_
      refine Zc 5 rfl rfl ⟨[0,1,2,3,4,5,6,7,8],by decide,rfl⟩ (Zf (Zi Tryz.underlying3 rfl rfl (by exact Zp 1 rfl rfl))) ?_
      refine Zc 6 rfl rfl ⟨[0,1,2,3,4,5,6,7,8],by decide,rfl⟩ (Zf (Zr Tryz.underlying184 rfl Yl rfl (by exact ZH 1 (off:=0) (k:=3) rfl rfl) rfl)) ?_
      refine Zc 7 rfl rfl ⟨[0,1,2,3,4,5,6,7,8],by decide,rfl⟩ (Zf (Zr Tryz.underlying182 rfl Yq rfl (by exact ZH 3 (off:=0) (k:=2) rfl rfl) rfl)) ?_
      refine Zc 8 rfl rfl ⟨[0,1,2,3,4,5,6,7,8],by decide,rfl⟩ (Zf (ZT rfl (fun _=>Xk _ _ _ _ _ _ _))) ?_
      refine ZK 9 rfl (.inr ⟨[0,1,2,3,4,5,6,7,8],by decide,rfl⟩) (Xi 5 HV (v:=⟨⟨keyP zs,numTo zs 4,Xn zs,j,q⟩,rx,cx⟩) Tryz.underlying135 Tryz.underlying3 rfl rfl rfl rfl rfl ?_)
      refine ZP (.inl (by kernel_rfl)) ?_
      refine ZI<|Ze<|Za<|gr rfl (by exact ZL (b:=1) rfl rfl (by omega)) ?_
      refine gm rfl rfl<|ZM<|Ze ?_
      have hnw:XI ⟨keyP zs,numTo zs 4,Xn zs,j,q⟩ (plain m)=true:=by unfold XI; rw [show YY (En.key ⟨keyP zs,numTo zs 4,Xn zs,j,q⟩) (plain m)=none from hms.none hg]
      exact ZR ((q+1,max nu (numTo zs 4),WL ((keyP zs:Nat):Int) ⟨⟨keyP zs,numTo zs 4,Xn zs,j,q⟩,rx,cx⟩ nb m,mnb ((keyP zs:Nat):Int) m nb,He.row ⟨⟨keyP zs,numTo zs 4,Xn zs,j,q⟩,rx,cx⟩::T)) ⟨⟨by simp only; omega,hms.put ⟨⟨keyP zs,numTo zs 4,Xn zs,j,q⟩,rx,cx⟩ heo (fun y hy=>List.mem_cons_of_mem _ hy) List.mem_cons_self,by simp only; rw [Xo,← hsc,Vy (by rw [hzs]; exact hbd) h44]; simp only [enB,hzs]; rw [if_pos hnw,WH ⟨⟨keyP zs,numTo zs 4,Xn zs,j,q⟩,rx,cx⟩ nb hms.key],Nat.max_lt.2 ⟨hnu,hn4⟩⟩,by simp only; omega⟩ ⟨rfl,rfl,rfl,rfl,rfl,rfl,trivial⟩ (ZS (A:=[_,_,_,_,_,_]) (B:=[_,_,_,_,_,_,_,_,_]) (T:=T) [4,5,6,7,8,2] 9 (by decide) (by decide) rfl rfl)
     refine ZO [0,1,2,3,4,5,6,7] false 12 rfl<|Zc 0 rfl rfl ⟨[0,1,2,3,4,5,6,7],by decide,rfl⟩ (Zf (Zo rfl)) ?_
     refine Zc 1 rfl rfl ⟨[0,1,2,3,4,5,6,7],by decide,rfl⟩ (Zf (ZN rfl)) ?_
     refine Zc 2 rfl rfl ⟨[0,1,2,3,4,5,6,7],by decide,rfl⟩ (Zf (Zd rfl (YG _))) ?_
     refine Zc 3 rfl rfl ⟨[0,1,2,3,4,5,6,7],by decide,rfl⟩ (Zf (Zi Tryz.underlying135 rfl rfl (by exact Zp 3 rfl rfl))) ?_
     refine Zc 4 rfl rfl ⟨[0,1,2,3,4,5,6,7],by decide,rfl⟩ (Zf (Zd rfl (XG _))) ?_
     refine Zc 5 rfl rfl ⟨[0,1,2,3,4,5,6,7],by decide,rfl⟩ (Zf (Zi Tryz.underlying3 rfl rfl (by exact Zp 0 rfl rfl))) ?_
     refine Zc 6 rfl rfl ⟨[0,1,2,3,4,5,6,7],by decide,rfl⟩ (Zf (XK 4 HV rfl Tryz.underlying135 Tryz.underlying3 Y3 rfl rfl)) ?_
     refine Zc 7 rfl rfl ⟨[0,1,2,3,4,5,6,7],by decide,rfl⟩ (Zf (Zo rfl)) ?_
     refine Zc 8 rfl rfl ⟨[0,1,2,3,4,5,6,7],by decide,rfl⟩ (Zf (ZD rfl rfl)) ?_
     refine Zc 9 rfl rfl ⟨[0,1,2,3,4,5,6,7],by decide,rfl⟩ (Zf (ZD rfl rfl)) ?_
     refine ZK 10 rfl (.inr ⟨[0,1,2,3,4,5,6,7],by decide,rfl⟩) (ZU Y3 rfl rfl (fun b9=>?_))
     rw [hg,Option.map_some,Option.getD_some,Option.isSome_some]
     refine ZK 11 rfl (.inr ⟨[1,2,3,4,5,6,7,8],by decide,rfl⟩) (Zz 0 Y3 rfl rfl rfl rfl rfl rfl (by rfl) ?_)
     refine ZK 12 rfl (.inr ⟨[1,2,3,4,5,6,7,8],by decide,rfl⟩) (Zm rfl (ZY rfl) ?_)
     refine ZP (.inl (by kernel_rfl)) ?_
     refine Ze<|Zb<|Za<|gm rfl rfl<|gr rfl (rd_not rfl)<|gm rfl rfl<|Zg rfl rfl<|Zm rfl (Zd rfl (Zbt _))<|Zg rfl rfl<|Zm rfl (Zd rfl (Wf _))<|Zg rfl rfl (Zm rfl (Zi Tryz.underlying136 rfl rfl (by exact Zp 0 rfl rfl)) ?_)
     refine Zg rfl rfl<|Zm rfl (Zd rfl (Wf _))<|Zg rfl rfl (Zm rfl (Zi Tryz.underlying136 rfl rfl (by exact Zp 1 rfl rfl)) ?_)
     refine Zg rfl rfl (Zm rfl (ZX rfl rfl) (Zw (fun h74=>?_) (fun h74=>?_)))
     ·refine gr rfl (Zn rfl rfl)<|gA<|Zk rfl<|ZO [0,1,2,3,4,5,6,7,8] false 9 rfl<|Zc 0 rfl rfl ⟨[0,1,2,3,4,5,6,7,8],by decide,rfl⟩ (Zf (Zo rfl)) ?_
      refine Zc 1 rfl rfl ⟨[0,1,2,3,4,5,6,7,8],by decide,rfl⟩ (Zf (ZN rfl)) ?_
      refine Zc 2 rfl rfl ⟨[0,1,2,3,4,5,6,7,8],by decide,rfl⟩ (Zf (Zd rfl (YG _))) ?_
      refine Zc 3 rfl rfl ⟨[0,1,2,3,4,5,6,7,8],by decide,rfl⟩ (Zf (Zi Tryz.underlying135 rfl rfl (by exact Zp 4 rfl rfl))) ?_
      refine Zc 4 rfl rfl ⟨[0,1,2,3,4,5,6,7,8],by decide,rfl⟩ (Zf (Zd rfl (XG _))) ?_
      refine Zc 5 rfl rfl ⟨[0,1,2,3,4,5,6,7,8],by decide,rfl⟩ (Zf (Zi Tryz.underlying3 rfl rfl (by exact Zp 1 rfl rfl))) ?_
      refine Zc 6 rfl rfl ⟨[0,1,2,3,4,5,6,7,8],by decide,rfl⟩ (Zf (Zr Tryz.underlying184 rfl Yl rfl (by exact ZH 1 (off:=0) (k:=3) rfl rfl) rfl)) ?_
      refine Zc 7 rfl rfl ⟨[0,1,2,3,4,5,6,7,8],by decide,rfl⟩ (Zf (Zr Tryz.underlying182 rfl Yq rfl (by exact ZH 3 (off:=0) (k:=2) rfl rfl) rfl)) ?_
      refine Zc 8 rfl rfl ⟨[0,1,2,3,4,5,6,7,8],by decide,rfl⟩ (Zf (ZT rfl (fun _=>Xk _ _ _ _ _ _ _))) ?_
      refine ZK 9 rfl (.inr ⟨[0,1,2,3,4,5,6,7,8],by decide,rfl⟩) (Xi 5 HV (v:=⟨⟨keyP zs,numTo zs 4,Xn zs,j,q⟩,rx,cx⟩) Tryz.underlying135 Tryz.underlying3 rfl rfl rfl rfl rfl ?_)
      refine ZP (.inl (by kernel_rfl)) ?_
      refine ZI<|Ze<|Za<|gr rfl (by exact ZL (b:=1) rfl rfl (by omega)) ?_
      refine gm rfl rfl<|ZM<|Ze ?_
      have hnw:XI ⟨keyP zs,numTo zs 4,Xn zs,j,q⟩ (plain m)=true:=by unfold XI; rw [show YY (En.key ⟨keyP zs,numTo zs 4,Xn zs,j,q⟩) (plain m)=some o.en from (hms.get hg).2.2.2]; exact decide_eq_true (by simp only; omega)
      exact ZR ((q+1,max nu (numTo zs 4),WL ((keyP zs:Nat):Int) ⟨⟨keyP zs,numTo zs 4,Xn zs,j,q⟩,rx,cx⟩ nb m,mnb ((keyP zs:Nat):Int) m nb,He.row ⟨⟨keyP zs,numTo zs 4,Xn zs,j,q⟩,rx,cx⟩::T)) ⟨⟨by simp only; omega,hms.put ⟨⟨keyP zs,numTo zs 4,Xn zs,j,q⟩,rx,cx⟩ heo (fun y hy=>List.mem_cons_of_mem _ hy) List.mem_cons_self,by simp only; rw [Xo,← hsc,Vy (by rw [hzs]; exact hbd) h44]; simp only [enB,hzs]; rw [if_pos hnw,WH ⟨⟨keyP zs,numTo zs 4,Xn zs,j,q⟩,rx,cx⟩ nb hms.key],Nat.max_lt.2 ⟨hnu,hn4⟩⟩,by simp only; omega⟩ ⟨rfl,rfl,rfl,rfl,rfl,rfl,trivial⟩ (ZS (A:=[_,_,_,_,_,_]) (B:=[_,_,_,_,_,_,_,_,_]) (T:=T) [4,5,6,7,8,2] 9 (by decide) (by decide) rfl rfl)
     refine gr rfl (Zn rfl rfl)<|gA<|Zl rfl<|Zv<|ZI<|Ze<|Za<|gr rfl (by exact ZL (b:=1) rfl rfl (by omega)) ?_
     refine gm rfl rfl<|ZM<|Ze ?_
     have hnw:XI ⟨keyP zs,numTo zs 4,Xn zs,j,q⟩ (plain m)=false:=by unfold XI; rw [show YY (En.key ⟨keyP zs,numTo zs 4,Xn zs,j,q⟩) (plain m)=some o.en from (hms.get hg).2.2.2]; exact decide_eq_false (by simp only; omega)
     exact ZR ((q+1,max nu (numTo zs 4),m,nb,T)) ⟨⟨by simp only; omega,hms,by simp only; rw [Xo,← hsc,Vy (by rw [hzs]; exact hbd) h44]; simp only [enB,hzs]; rw [hnw]; rfl,Nat.max_lt.2 ⟨hnu,hn4⟩⟩,by simp only; omega⟩ ⟨rfl,rfl,rfl,rfl,rfl,rfl,trivial⟩ (YL 4 rfl)
    refine (ZU Yl rfl rfl (fun b7=>?_))
    refine ZK 6 rfl (.inr ⟨[1,2,3,4,5,6],by decide,rfl⟩) (ZJ rfl (vf:=[]) (vc:=[]) rfl rfl Tryz.call107 (fun w1 ho=>Zb1 zs hz8 hzl (some ⟨gb,j * 256+q * 24,none⟩) (cb - (j * 256+q * 24)) (by omega) w1 (by rw [← hzs]; unfold slotB; rw [← JL]; exact Zc1 (ho.rowSl 5 rfl) (j * 256+q * 24) 24 (by omega)) hbd) ?_)
    rintro _ _ ⟨rx,cx,rfl,rfl⟩
    refine Zc 7 rfl rfl ⟨[2,3,4,5,6,7],by decide,rfl⟩ (Zf (Zo rfl)) ?_
    refine Zc 8 rfl rfl ⟨[2,3,4,5,6,7],by decide,rfl⟩ (Zf (ZD rfl rfl)) ?_
    refine Zc 9 rfl rfl ⟨[2,3,4,5,6,7],by decide,rfl⟩ (Zf (ZD rfl rfl)) ?_
    refine ZK 11 rfl (.inr ⟨[2,3,4,5,6,7],by decide,rfl⟩) (Zz 1 Yl rfl rfl rfl rfl rfl rfl (by rfl) ?_)
    refine ZK 12 rfl (.inr ⟨[2,3,4,5,6,7],by decide,rfl⟩) (Zm rfl (ZY rfl) ?_)
    refine ZP (.inl (by kernel_rfl)) ?_
    refine Ze<|Zb<|Zb<|Za<|gm rfl rfl<|gr rfl (rd_not rfl)<|gm rfl rfl<|Zg rfl rfl<|Zm rfl (Zo rfl)<|Zg rfl rfl<|Zm rfl (Zo rfl)<|Zg rfl rfl (Zm rfl (Z8 rfl rfl) (Zw (fun h44=>?_) (fun h44=>?_)))
    ·refine gr rfl (Zn rfl rfl)<|gA<|Zk rfl<|Z1<|Zs<|ZE<|Ze<|Za<|gr rfl (by exact ZL (b:=1) rfl rfl (by omega)) ?_
     refine gm rfl rfl<|ZM<|Ze ?_
     exact ZR ((q+1,nu,m,nb,T)) ⟨⟨by simp only; omega,hms,by simp only; rw [Xo,← hsc,JN (.inr h44)],hnu⟩,by simp only; omega⟩ ⟨rfl,rfl,rfl,rfl,rfl,rfl,trivial⟩ (YL 3 rfl)
    have hn4:numTo zs 4<4294967296:=Zlb hz8 (Nat.le_refl 4)
    have heo:EnOk ⟨keyP zs,numTo zs 4,Xn zs,j,q⟩:=by have:=Zo5 hf.bs (bk:=j) (sl:=q) (by omega) (by omega) (by omega) (by rw [hzs]; exact hbd); unfold enB at this; rw [hzs] at this; exact this
    refine gr rfl (Zn rfl rfl)<|gA<|Zl rfl<|Zv<|Ze<|Zb<|ZO [0,1,2,3,4,5,6,7] false 10 rfl<|Zc 0 rfl rfl ⟨[0,1,2,3,4,5,6,7],by decide,rfl⟩ (Zf (Zo rfl)) ?_
    refine Zc 1 rfl rfl ⟨[0,1,2,3,4,5,6,7],by decide,rfl⟩ (Zf (Zo rfl)) ?_
    refine Zc 2 rfl rfl ⟨[0,1,2,3,4,5,6,7],by decide,rfl⟩ (Zf (ZN rfl)) ?_
    refine Zc 3 rfl rfl ⟨[0,1,2,3,4,5,6,7],by decide,rfl⟩ (Zf (Zd rfl (YQ _))) ?_
    refine Zc 4 rfl rfl ⟨[0,1,2,3,4,5,6,7],by decide,rfl⟩ (Zf (Zi Tryz.underlying136 rfl rfl (by exact Zp 3 rfl rfl))) ?_
    refine Zc 5 rfl rfl ⟨[0,1,2,3,4,5,6,7],by decide,rfl⟩ (Zf (Zd rfl (Wf _))) ?_
    refine Zc 6 rfl rfl ⟨[0,1,2,3,4,5,6,7],by decide,rfl⟩ (Zf (Zi Tryz.underlying136 rfl rfl (by exact Zp 1 rfl rfl))) ?_
    refine Zc 7 rfl rfl ⟨[0,1,2,3,4,5,6,7],by decide,rfl⟩ (Zf (Zqf rfl rfl)) ?_
    refine ZK 8 rfl (.inr ⟨[0,1,2,3,4,5,6,7],by decide,rfl⟩) (Zm rfl (ZN rfl) ?_)
    refine Zc 9 rfl rfl ⟨[0,1,2,3,4,5,6,7],by decide,rfl⟩ (Zf (Zd rfl (YQ _))) ?_
    refine ZK 10 rfl (.inr ⟨[0,1,2,3,4,5,6,7],by decide,rfl⟩) (Yc 3 Jm rfl rfl rfl rfl rfl (by rfl) (by rfl) ?_)
    refine ZP (.inl (by kernel_rfl)) ?_
    refine Ze<|Zb ?_
    rcases hg:Wz ((keyP zs:Nat):Int) m with _ | o
    ·refine ZO [0,1,2,3,4,5,6,7] false 12 rfl<|Zc 0 rfl rfl ⟨[0,1,2,3,4,5,6,7],by decide,rfl⟩ (Zf (Zo rfl)) ?_
     refine Zc 1 rfl rfl ⟨[0,1,2,3,4,5,6,7],by decide,rfl⟩ (Zf (ZN rfl)) ?_
     refine Zc 2 rfl rfl ⟨[0,1,2,3,4,5,6,7],by decide,rfl⟩ (Zf (Zd rfl (YG _))) ?_
     refine Zc 3 rfl rfl ⟨[0,1,2,3,4,5,6,7],by decide,rfl⟩ (Zf (Zi Tryz.underlying135 rfl rfl (by exact Zp 3 rfl rfl))) ?_
     refine Zc 4 rfl rfl ⟨[0,1,2,3,4,5,6,7],by decide,rfl⟩ (Zf (Zd rfl (XG _))) ?_
     refine Zc 5 rfl rfl ⟨[0,1,2,3,4,5,6,7],by decide,rfl⟩ (Zf (Zi Tryz.underlying3 rfl rfl (by exact Zp 1 rfl rfl))) ?_
     refine Zc 6 rfl rfl ⟨[0,1,2,3,4,5,6,7],by decide,rfl⟩ (Zf (XK 4 HV rfl Tryz.underlying135 Tryz.underlying3 Y3 rfl rfl)) ?_
     refine Zc 7 rfl rfl ⟨[0,1,2,3,4,5,6,7],by decide,rfl⟩ (Zf (Zo rfl)) ?_
     refine Zc 8 rfl rfl ⟨[0,1,2,3,4,5,6,7],by decide,rfl⟩ (Zf (ZD rfl rfl)) ?_
     refine Zc 9 rfl rfl ⟨[0,1,2,3,4,5,6,7],by decide,rfl⟩ (Zf (ZD rfl rfl)) ?_
     refine ZK 10 rfl (.inr ⟨[0,1,2,3,4,5,6,7],by decide,rfl⟩) (ZU Y3 rfl rfl (fun b9=>?_))
     rw [hg,Option.map_none,Option.getD_none,Option.isSome_none]
     refine ZK 11 rfl (.inr ⟨[1,2,3,4,5,6,7,8],by decide,rfl⟩) (Zz 0 Y3 rfl rfl rfl rfl rfl rfl (by rfl) ?_)
     refine ZK 12 rfl (.inr ⟨[1,2,3,4,5,6,7,8],by decide,rfl⟩) (Zm rfl (ZY rfl) ?_)
     refine ZP (.inl (by kernel_rfl)) ?_
     refine Ze<|Zb<|Za<|gm rfl rfl<|gr rfl (rd_not rfl)<|gm rfl rfl<|Zj rfl rfl rfl<|Zj rfl rfl rfl<|Zj rfl rfl rfl<|Zj rfl rfl rfl<|Zj rfl rfl rfl<|Zj rfl rfl rfl<|gr rfl (Zq rfl rfl)<|gA<|Zk rfl<|ZO [0,1,2,3,4,5,6,7,8] false 9 rfl<|Zc 0 rfl rfl ⟨[0,1,2,3,4,5,6,7,8],by decide,rfl⟩ (Zf (Zo rfl)) ?_
     refine Zc 1 rfl rfl ⟨[0,1,2,3,4,5,6,7,8],by decide,rfl⟩ (Zf (ZN rfl)) ?_
     refine Zc 2 rfl rfl ⟨[0,1,2,3,4,5,6,7,8],by decide,rfl⟩ (Zf (Zd rfl (YG _))) ?_
     refine Zc 3 rfl rfl ⟨[0,1,2,3,4,5,6,7,8],by decide,rfl⟩ (Zf (Zi Tryz.underlying135 rfl rfl (by exact Zp 4 rfl rfl))) ?_
     refine Zc 4 rfl rfl ⟨[0,1,2,3,4,5,6,7,8],by decide,rfl⟩ (Zf (Zd rfl (XG _))) ?_
     refine Zc 5 rfl rfl ⟨[0,1,2,3,4,5,6,7,8],by decide,rfl⟩ (Zf (Zi Tryz.underlying3 rfl rfl (by exact Zp 2 rfl rfl))) ?_
     refine Zc 6 rfl rfl ⟨[0,1,2,3,4,5,6,7,8],by decide,rfl⟩ (Zf (Zr Tryz.underlying184 rfl Yl rfl (by exact ZH 2 (off:=0) (k:=3) rfl rfl) rfl)) ?_
     refine Zc 7 rfl rfl ⟨[0,1,2,3,4,5,6,7,8],by decide,rfl⟩ (Zf (Zr Tryz.underlying182 rfl Yq rfl (by exact ZH 3 (off:=0) (k:=2) rfl rfl) rfl)) ?_
     refine Zc 8 rfl rfl ⟨[0,1,2,3,4,5,6,7,8],by decide,rfl⟩ (Zf (ZT rfl (fun _=>Xk _ _ _ _ _ _ _))) ?_
     refine ZK 9 rfl (.inr ⟨[0,1,2,3,4,5,6,7,8],by decide,rfl⟩) (Xi 5 HV (v:=⟨⟨keyP zs,numTo zs 4,Xn zs,j,q⟩,rx,cx⟩) Tryz.underlying135 Tryz.underlying3 rfl rfl rfl rfl rfl ?_)
     refine ZP (.inl (by kernel_rfl)) ?_
     refine ZI<|Ze<|Za<|gr rfl (by exact ZL (b:=1) rfl rfl (by omega)) ?_
     refine gm rfl rfl<|ZM<|Ze ?_
     have hnw:XI ⟨keyP zs,numTo zs 4,Xn zs,j,q⟩ (plain m)=true:=by unfold XI; rw [show YY (En.key ⟨keyP zs,numTo zs 4,Xn zs,j,q⟩) (plain m)=none from hms.none hg]
     exact ZR ((q+1,max nu (numTo zs 4),WL ((keyP zs:Nat):Int) ⟨⟨keyP zs,numTo zs 4,Xn zs,j,q⟩,rx,cx⟩ nb m,mnb ((keyP zs:Nat):Int) m nb,He.row ⟨⟨keyP zs,numTo zs 4,Xn zs,j,q⟩,rx,cx⟩::T)) ⟨⟨by simp only; omega,hms.put ⟨⟨keyP zs,numTo zs 4,Xn zs,j,q⟩,rx,cx⟩ heo (fun y hy=>List.mem_cons_of_mem _ hy) List.mem_cons_self,by simp only; rw [Xo,← hsc,Vy (by rw [hzs]; exact hbd) h44]; simp only [enB,hzs]; rw [if_pos hnw,WH ⟨⟨keyP zs,numTo zs 4,Xn zs,j,q⟩,rx,cx⟩ nb hms.key],Nat.max_lt.2 ⟨hnu,hn4⟩⟩,by simp only; omega⟩ ⟨rfl,rfl,rfl,rfl,rfl,rfl,trivial⟩ (ZS (A:=[_,_,_,_,_,_]) (B:=[_,_,_,_,_,_,_,_,_]) (T:=T) [4,5,6,7,8,1] 9 (by decide) (by decide) rfl rfl)
    refine ZO [0,1,2,3,4,5,6,7] false 12 rfl<|Zc 0 rfl rfl ⟨[0,1,2,3,4,5,6,7],by decide,rfl⟩ (Zf (Zo rfl)) ?_
    refine Zc 1 rfl rfl ⟨[0,1,2,3,4,5,6,7],by decide,rfl⟩ (Zf (ZN rfl)) ?_
    refine Zc 2 rfl rfl ⟨[0,1,2,3,4,5,6,7],by decide,rfl⟩ (Zf (Zd rfl (YG _))) ?_
    refine Zc 3 rfl rfl ⟨[0,1,2,3,4,5,6,7],by decide,rfl⟩ (Zf (Zi Tryz.underlying135 rfl rfl (by exact Zp 3 rfl rfl))) ?_
    refine Zc 4 rfl rfl ⟨[0,1,2,3,4,5,6,7],by decide,rfl⟩ (Zf (Zd rfl (XG _))) ?_
    refine Zc 5 rfl rfl ⟨[0,1,2,3,4,5,6,7],by decide,rfl⟩ (Zf (Zi Tryz.underlying3 rfl rfl (by exact Zp 1 rfl rfl))) ?_
    refine Zc 6 rfl rfl ⟨[0,1,2,3,4,5,6,7],by decide,rfl⟩ (Zf (XK 4 HV rfl Tryz.underlying135 Tryz.underlying3 Y3 rfl rfl)) ?_
    refine Zc 7 rfl rfl ⟨[0,1,2,3,4,5,6,7],by decide,rfl⟩ (Zf (Zo rfl)) ?_
    refine Zc 8 rfl rfl ⟨[0,1,2,3,4,5,6,7],by decide,rfl⟩ (Zf (ZD rfl rfl)) ?_
    refine Zc 9 rfl rfl ⟨[0,1,2,3,4,5,6,7],by decide,rfl⟩ (Zf (ZD rfl rfl)) ?_
    refine ZK 10 rfl (.inr ⟨[0,1,2,3,4,5,6,7],by decide,rfl⟩) (ZU Y3 rfl rfl (fun b9=>?_))
    rw [hg,Option.map_some,Option.getD_some,Option.isSome_some]
    refine ZK 11 rfl (.inr ⟨[1,2,3,4,5,6,7,8],by decide,rfl⟩) (Zz 0 Y3 rfl rfl rfl rfl rfl rfl (by rfl) ?_)
    refine ZK 12 rfl (.inr ⟨[1,2,3,4,5,6,7,8],by decide,rfl⟩) (Zm rfl (ZY rfl) ?_)
    refine ZP (.inl (by kernel_rfl)) ?_
    refine Ze<|Zb<|Za<|gm rfl rfl<|gr rfl (rd_not rfl)<|gm rfl rfl<|Zg rfl rfl<|Zm rfl (Zd rfl (Zbt _))<|Zg rfl rfl<|Zm rfl (Zd rfl (Wf _))<|Zg rfl rfl (Zm rfl (Zi Tryz.underlying136 rfl rfl (by exact Zp 0 rfl rfl)) ?_)
    refine Zg rfl rfl<|Zm rfl (Zd rfl (Wf _))<|Zg rfl rfl (Zm rfl (Zi Tryz.underlying136 rfl rfl (by exact Zp 2 rfl rfl)) ?_)
    refine Zg rfl rfl (Zm rfl (ZX rfl rfl) (Zw (fun h74=>?_) (fun h74=>?_)))
    ·refine gr rfl (Zn rfl rfl)<|gA<|Zk rfl<|ZO [0,1,2,3,4,5,6,7,8] false 9 rfl<|Zc 0 rfl rfl ⟨[0,1,2,3,4,5,6,7,8],by decide,rfl⟩ (Zf (Zo rfl)) ?_
     refine Zc 1 rfl rfl ⟨[0,1,2,3,4,5,6,7,8],by decide,rfl⟩ (Zf (ZN rfl)) ?_
     refine Zc 2 rfl rfl ⟨[0,1,2,3,4,5,6,7,8],by decide,rfl⟩ (Zf (Zd rfl (YG _))) ?_
     refine Zc 3 rfl rfl ⟨[0,1,2,3,4,5,6,7,8],by decide,rfl⟩ (Zf (Zi Tryz.underlying135 rfl rfl (by exact Zp 4 rfl rfl))) ?_
     refine Zc 4 rfl rfl ⟨[0,1,2,3,4,5,6,7,8],by decide,rfl⟩ (Zf (Zd rfl (XG _))) ?_
     refine Zc 5 rfl rfl ⟨[0,1,2,3,4,5,6,7,8],by decide,rfl⟩ (Zf (Zi Tryz.underlying3 rfl rfl (by exact Zp 2 rfl rfl))) ?_
     refine Zc 6 rfl rfl ⟨[0,1,2,3,4,5,6,7,8],by decide,rfl⟩ (Zf (Zr Tryz.underlying184 rfl Yl rfl (by exact ZH 2 (off:=0) (k:=3) rfl rfl) rfl)) ?_
     refine Zc 7 rfl rfl ⟨[0,1,2,3,4,5,6,7,8],by decide,rfl⟩ (Zf (Zr Tryz.underlying182 rfl Yq rfl (by exact ZH 3 (off:=0) (k:=2) rfl rfl) rfl)) ?_
     refine Zc 8 rfl rfl ⟨[0,1,2,3,4,5,6,7,8],by decide,rfl⟩ (Zf (ZT rfl (fun _=>Xk _ _ _ _ _ _ _))) ?_
     refine ZK 9 rfl (.inr ⟨[0,1,2,3,4,5,6,7,8],by decide,rfl⟩) (Xi 5 HV (v:=⟨⟨keyP zs,numTo zs 4,Xn zs,j,q⟩,rx,cx⟩) Tryz.underlying135 Tryz.underlying3 rfl rfl rfl rfl rfl ?_)
     refine ZP (.inl (by kernel_rfl)) ?_
     refine ZI<|Ze<|Za<|gr rfl (by exact ZL (b:=1) rfl rfl (by omega)) ?_
     refine gm rfl rfl<|ZM<|Ze ?_
     have hnw:XI ⟨keyP zs,numTo zs 4,Xn zs,j,q⟩ (plain m)=true:=by unfold XI; rw [show YY (En.key ⟨keyP zs,numTo zs 4,Xn zs,j,q⟩) (plain m)=some o.en from (hms.get hg).2.2.2]; exact decide_eq_true (by simp only; omega)
     exact ZR ((q+1,max nu (numTo zs 4),WL ((keyP zs:Nat):Int) ⟨⟨keyP zs,numTo zs 4,Xn zs,j,q⟩,rx,cx⟩ nb m,mnb ((keyP zs:Nat):Int) m nb,He.row ⟨⟨keyP zs,numTo zs 4,Xn zs,j,q⟩,rx,cx⟩::T)) ⟨⟨by simp only; omega,hms.put ⟨⟨keyP zs,numTo zs 4,Xn zs,j,q⟩,rx,cx⟩ heo (fun y hy=>List.mem_cons_of_mem _ hy) List.mem_cons_self,by simp only; rw [Xo,← hsc,Vy (by rw [hzs]; exact hbd) h44]; simp only [enB,hzs]; rw [if_pos hnw,WH ⟨⟨keyP zs,numTo zs 4,Xn zs,j,q⟩,rx,cx⟩ nb hms.key],Nat.max_lt.2 ⟨hnu,hn4⟩⟩,by simp only; omega⟩ ⟨rfl,rfl,rfl,rfl,rfl,rfl,trivial⟩ (ZS (A:=[_,_,_,_,_,_]) (B:=[_,_,_,_,_,_,_,_,_]) (T:=T) [4,5,6,7,8,1] 9 (by decide) (by decide) rfl rfl)
    refine gr rfl (Zn rfl rfl)<|gA<|Zl rfl<|Zv<|ZI<|Ze<|Za<|gr rfl (by exact ZL (b:=1) rfl rfl (by omega)) ?_
    refine gm rfl rfl<|ZM<|Ze ?_
    have hnw:XI ⟨keyP zs,numTo zs 4,Xn zs,j,q⟩ (plain m)=false:=by unfold XI; rw [show YY (En.key ⟨keyP zs,numTo zs 4,Xn zs,j,q⟩) (plain m)=some o.en from (hms.get hg).2.2.2]; exact decide_eq_false (by simp only; omega)
    exact ZR ((q+1,max nu (numTo zs 4),m,nb,T)) ⟨⟨by simp only; omega,hms,by simp only; rw [Xo,← hsc,Vy (by rw [hzs]; exact hbd) h44]; simp only [enB,hzs]; rw [hnw]; rfl,Nat.max_lt.2 ⟨hnu,hn4⟩⟩,by simp only; omega⟩ ⟨rfl,rfl,rfl,rfl,rfl,rfl,trivial⟩ (YL 4 rfl)
   refine gA<|Zb<|Zk rfl<|Zv<|Ze<|Zb<|ZB<|Zb<|Za<|gm rfl rfl<|gas rfl rfl<|gA<|Zb<|Za<|gm rfl rfl<|gm rfl rfl<|gr rfl (ZT rfl (fun _=>Jp _ _)) ?_
   refine Zt (ZU Yq rfl rfl (fun b6=>?_))
   refine Zt (Zz 0 Yq rfl rfl rfl rfl rfl rfl (by rfl) ?_)
   refine gA<|Zb<|ZO [0,1,2,3,4,5] false 12 rfl<|Zc 0 rfl rfl ⟨[0,1,2,3,4,5],by decide,rfl⟩ (Zf (Zo rfl)) ?_
   refine Zc 1 rfl rfl ⟨[0,1,2,3,4,5],by decide,rfl⟩ (Zf (ZN rfl)) ?_
   refine Zc 2 rfl rfl ⟨[0,1,2,3,4,5],by decide,rfl⟩ (Zf (Zd rfl (X3 _))) ?_
   refine Zc 3 rfl rfl ⟨[0,1,2,3,4,5],by decide,rfl⟩ (Zf (Zi Tryz.underlying32 rfl rfl (by exact Zp 1 rfl rfl))) ?_
   refine Zc 4 rfl rfl ⟨[0,1,2,3,4,5],by decide,rfl⟩ (Zf (Zr Tryz.underlying182 rfl Yq rfl (by exact ZH 0 (off:=0) (k:=2) rfl rfl) rfl)) ?_
   refine Zc 5 rfl rfl ⟨[0,1,2,3,4,5],by decide,rfl⟩ (YE (vf:=[]) (vc:=[]) rfl rfl Tryz.call108 (fun w1 ho=>Zhv f hf bf gb cb rp cp w1 (ho.blkCells 3 rfl) hcb j q (by omega)) (by rintro _ _ ⟨h,_⟩; exact h)) ?_
   refine Zc 6 rfl rfl ⟨[0,1,2,3,4,5],by decide,rfl⟩ (YE (vf:=[]) (vc:=[]) rfl rfl Tryz.call107 (fun w1 ho=>Zhw zs hz8 hzl (some ⟨gb,j * 256+q * 24,none⟩) (cb - (j * 256+q * 24)) (by omega) w1 (by rw [← hzs]; unfold slotB; rw [← JL]; exact Zc1 (ho.rowSl 4 rfl) (j * 256+q * 24) 24 (by omega)) hbd) (by rintro _ _ ⟨h,_⟩; exact h)) ?_
   refine Zc 7 rfl rfl ⟨[0,1,2,3,4,5],by decide,rfl⟩ (Zf (Zo rfl)) ?_
   refine Zc 8 rfl rfl ⟨[0,1,2,3,4,5],by decide,rfl⟩ (Zf (ZD rfl rfl)) ?_
   refine Zc 9 rfl rfl ⟨[0,1,2,3,4,5],by decide,rfl⟩ (Zf (ZD rfl rfl)) ?_
   refine ZK 10 rfl (.inr ⟨[0,1,2,3,4,5],by decide,rfl⟩) (ZU Yl rfl rfl (fun b7=>?_))
   refine ZK 11 rfl (.inr ⟨[1,2,3,4,5,6],by decide,rfl⟩) (Zz 0 Yl rfl rfl rfl rfl rfl rfl (by rfl) ?_)
   refine ZK 12 rfl (.inr ⟨[1,2,3,4,5,6],by decide,rfl⟩) (Zm rfl (ZY rfl) ?_)
   refine ZP (.inl (by kernel_rfl)) ?_
   refine Ze<|Zb<|Zb<|Za<|gm rfl rfl<|gr rfl (rd_not rfl)<|gm rfl rfl<|Zj rfl rfl rfl<|Zj rfl rfl rfl<|Zj rfl rfl rfl<|gr rfl (Zq rfl rfl)<|gA<|Zk rfl<|Z1<|Zs<|ZE<|Ze<|Za<|gr rfl (by exact ZL (b:=1) rfl rfl (by omega)) ?_
   refine gm rfl rfl<|ZM<|Ze ?_
   exact ZR ((q+1,nu,m,nb,T)) ⟨⟨by simp only; omega,hms,by simp only; rw [Xo,← hsc,JN (.inl (by rw [hzs]; exact hbd))],hnu⟩,by simp only; omega⟩ ⟨rfl,rfl,rfl,rfl,rfl,rfl,trivial⟩ (YL 2 rfl)
  refine gA<|Zb<|Zl rfl<|Z1<|Zs<|Zs<|ZE<|ZI<|Ze<|Za<|gr rfl (by exact ZL (b:=1) rfl rfl (by omega)) ?_
  refine gm rfl rfl<|ZM<|Ze ?_
  exact ZR ((j+1,nu,m,nb,T)) ⟨⟨by simp only; omega,hms,by simp only; rw [Zac,← hsc0,hsc,show q=10 by omega],hnu⟩,by simp only; omega⟩ ⟨rfl,rfl,rfl,rfl,trivial⟩ (YL 0 rfl)
 refine gA<|Zb<|Zl rfl<|Z1<|Zs<|Zs<|ZE<|Zdm (.inr rfl) Tryz.results70 (YL 0 rfl) ?_
 exact ⟨b12,m,nb,T,nu,rfl,hms,by rw [hsc,show j=f.b.length / 256 by omega]; rfl,hnu,rfl⟩
namespace Iv
theorem Zf0 {b:List Nat} {P:List En} {bk q:Nat} (hq:q<10) (h:XP b P bk q=false):Zb0 b P bk=false:=by
 unfold Zb0
 rw [List.all_eq_false]
 exact ⟨q,List.mem_range.2 hq,by rw [h]; decide⟩
theorem Zo6 {b:List Nat} {P:List En} {bk:Nat} (h:∀ i,i<10→XP b P bk i=true):Zb0 b P bk=true:=by
 unfold Zb0
 rw [List.all_eq_true]
 exact fun i hi=>h i (List.mem_range.1 hi)
structure RoomAt (b:List Nat) (free:Int) (bk sl:Nat):Prop where
  hbk:bk<b.length / 256
  hsl:sl<10
  ne:(bk:Int)≠free
  em:Yw (slotB b bk sl)=0
def NoRoom (b:List Nat) (free:Int):Prop:=∀ bk sl,bk<b.length / 256→sl<10→(bk:Int)≠free→Yw (slotB b bk sl)≠0
def RoomR (b:List Nat) (free:Int) (v:Value) (L:List HL):Prop :=
  L=[]∧((∃ bk sl:Nat,v=.tuple #[.agg #[natV bk,natV sl],.bool true]∧RoomAt b free bk sl)∨(∃ bk sl:Nat,v=.tuple #[.agg #[natV bk,natV sl],.bool false]∧NoRoom b free))
end Iv
theorem spare_ok (f:Fl) (hf:f.Ok) (bs bf:Nat) (rb:Option Nat) (cb:Nat) (rp:Option Nat) (cp:Nat) (id bm num:Nat) (free:Int) (m:List (ME He)) (nb:Nat) (T:List HL) (hms:MSt m nb T) (S:List Nat) (w0:World) (hown:Own w0 S w0 (.blk bs [.bool true,.pointer (some ⟨bf,0,none⟩),natV id,.map (some bm),.int .u32 ((num:Nat):Int),.int .i64 free] 138 :: .obj bm (X0 HV m nb)::FlH bf rb cb rp cp f)) (j:Nat) (hj:j<f.b.length / 256):Sp Tryz.prog 71 [.pointer (some ⟨bs,0,none⟩),natV j] w0 S (fun v L=>v=.bool (Zb0 f.b (plain m) j)∧L=(.blk bs [.bool true,.pointer (some ⟨bf,0,none⟩),natV id,.map (some bm),.int .u32 ((num:Nat):Int),.int .i64 free] 138 :: .obj bm (X0 HV m nb)::FlH bf rb cb rp cp f)):=by
 have hbl:=hf.hi
 have hbl0:=hf.lo
 have hblm:=hf.len
 obtain ⟨gb,rfl,hcb⟩:=Zbw (hown.holds (.row 5 1 rb f.b.length cb (f.b.map u8V)) (by simp)) (by omega)
 refine ZC Tryz.func71 rfl Tryz.ntmps71 rfl hown ?_
 simp only [ZV]
 refine Zb<|Za<|gas rfl rfl<|gA<|Zb<|Zb<|Za<|gm rfl rfl<|gA<|ZB<|ZZ (ι:=Nat) [(0,_),(1,_)] [_,_,_,_,_] (fun q=>q≤10∧∀ i,i<q→XP f.b (plain m) j i=true) (fun q Fr0=>((10,natV q)::Fr0)) (fun q Fr0=>Fr0) (fun q=>10 - q) 0 (⟨Nat.zero_le _,fun i hi=>absurd hi (Nat.not_lt_zero _)⟩) ⟨rfl,rfl,rfl,trivial⟩ ⟨[0,1,2,3,4],by decide,rfl⟩ ?_
 rintro q ⟨hq,hcv⟩
 refine Zb<|Za<|gr rfl (ZX rfl rfl) (Zw (fun h11=>?_) (fun h11=>?_))
 ·obtain ⟨zs,hzs⟩:∃ zs,slotB f.b j q=zs:=⟨_,rfl⟩
  have hzl:zs.length=24:=by rw [← hzs]; exact VR (by omega)
  have hz8:∀ z∈zs,z<256:=by rw [← hzs]; exact VJ hf.bs j q
  rcases hbd:W1 zs with _ | _
  ·refine gA<|Zb<|Zk rfl<|Zv<|Ze<|Zb<|ZB<|Zb<|Za<|gm rfl rfl<|gas rfl rfl<|gA<|Zb<|Za<|gm rfl rfl<|gnc rfl rfl<|gr rfl (Zd rfl (X3 _))<|gr rfl (Zi Tryz.underlying32 rfl rfl (by exact Zp 0 rfl rfl)) ?_
   refine gm rfl rfl<|gm rfl rfl<|gr rfl (ZT rfl (fun _=>Jp _ _)) ?_
   refine Zt (ZJ rfl (vf:=[]) (vc:=[]) rfl rfl Tryz.call108 (fun w1 ho=>Zhv f hf bf gb cb rp cp w1 (ho.blkCells 2 rfl) hcb j q (by omega)) ?_)
   rintro _ _ ⟨rfl,rfl⟩
   refine Zt (ZJ rfl (vf:=[]) (vc:=[]) rfl rfl Tryz.call107 (fun w1 ho=>Zb1 zs hz8 hzl (some ⟨gb,j * 256+q * 24,none⟩) (cb - (j * 256+q * 24)) (by omega) w1 (by rw [← hzs]; unfold slotB; rw [← JL]; exact Zc1 (ho.rowSl 3 rfl) (j * 256+q * 24) 24 (by omega)) hbd) ?_)
   rintro _ _ ⟨rx,cx,rfl,rfl⟩
   refine gm rfl rfl<|gr rfl (ZD rfl rfl)<|gr rfl (ZD rfl rfl)<|Zt (ZU Yl rfl rfl (fun b6=>?_))
   refine Zt (Zz 0 Yl rfl rfl rfl rfl rfl rfl (by rfl) ?_)
   refine gas rfl rfl<|gA<|Zb<|Zb<|Za<|gm rfl rfl<|gr rfl (rd_not rfl)<|gA<|Zl rfl<|Zv<|Ze<|Zb ?_
   rcases hg:Wz ((keyP zs:Nat):Int) m with _ | o
   ·refine ZO [0,1,2,3,4,5,6] false 12 rfl<|Zc 0 rfl rfl ⟨[0,1,2,3,4,5,6],by decide,rfl⟩ (Zf (Zo rfl)) ?_
    refine Zc 1 rfl rfl ⟨[0,1,2,3,4,5,6],by decide,rfl⟩ (Zf (ZN rfl)) ?_
    refine Zc 2 rfl rfl ⟨[0,1,2,3,4,5,6],by decide,rfl⟩ (Zf (Zd rfl (YG _))) ?_
    refine Zc 3 rfl rfl ⟨[0,1,2,3,4,5,6],by decide,rfl⟩ (Zf (Zi Tryz.underlying135 rfl rfl (by exact Zp 2 rfl rfl))) ?_
    refine Zc 4 rfl rfl ⟨[0,1,2,3,4,5,6],by decide,rfl⟩ (Zf (Zd rfl (XG _))) ?_
    refine Zc 5 rfl rfl ⟨[0,1,2,3,4,5,6],by decide,rfl⟩ (Zf (Zi Tryz.underlying3 rfl rfl (by exact Zp 0 rfl rfl))) ?_
    refine Zc 6 rfl rfl ⟨[0,1,2,3,4,5,6],by decide,rfl⟩ (Zf (XK 3 HV rfl Tryz.underlying135 Tryz.underlying3 Y3 rfl rfl)) ?_
    refine Zc 7 rfl rfl ⟨[0,1,2,3,4,5,6],by decide,rfl⟩ (Zf (Zo rfl)) ?_
    refine Zc 8 rfl rfl ⟨[0,1,2,3,4,5,6],by decide,rfl⟩ (Zf (ZD rfl rfl)) ?_
    refine Zc 9 rfl rfl ⟨[0,1,2,3,4,5,6],by decide,rfl⟩ (Zf (ZD rfl rfl)) ?_
    refine ZK 10 rfl (.inr ⟨[0,1,2,3,4,5,6],by decide,rfl⟩) (ZU Y3 rfl rfl (fun b8=>?_))
    rw [hg,Option.map_none,Option.getD_none,Option.isSome_none]
    refine ZK 11 rfl (.inr ⟨[1,2,3,4,5,6,7],by decide,rfl⟩) (Zz 0 Y3 rfl rfl rfl rfl rfl rfl (by rfl) ?_)
    refine ZK 12 rfl (.inr ⟨[1,2,3,4,5,6,7],by decide,rfl⟩) (Zm rfl (ZY rfl) ?_)
    refine ZP (.inl (by kernel_rfl)) ?_
    refine Ze<|Zb<|Za<|gm rfl rfl<|gr rfl (rd_not rfl)<|gm rfl rfl<|Zj rfl rfl rfl<|Zj rfl rfl rfl<|Zj rfl rfl rfl<|Zj rfl rfl rfl<|Zj rfl rfl rfl<|Zj rfl rfl rfl<|gr rfl (Zq rfl rfl)<|gA<|Zk rfl<|Zb<|Za<|gas rfl rfl<|gA<|Zu<|Zx<|Zh<|Zh ?_
    refine Zx<|Zh ?_
    have hco:XP f.b (plain m) j q=false:=by unfold XP; rw [show XI (enB f.b j q) (plain m)=true by unfold XI enB; rw [hzs]; rw [show YY (En.key ⟨keyP zs,numTo zs 4,Xn zs,j,q⟩) (plain m)=none from hms.none hg],hzs,hbd]; rfl
    refine Zy (.inl rfl) Tryz.results71 rfl [3,4,5,6,7] (by decide) ?_
    exact ⟨by rw [Zf0 (by omega) hco],rfl⟩
   refine ZO [0,1,2,3,4,5,6] false 12 rfl<|Zc 0 rfl rfl ⟨[0,1,2,3,4,5,6],by decide,rfl⟩ (Zf (Zo rfl)) ?_
   refine Zc 1 rfl rfl ⟨[0,1,2,3,4,5,6],by decide,rfl⟩ (Zf (ZN rfl)) ?_
   refine Zc 2 rfl rfl ⟨[0,1,2,3,4,5,6],by decide,rfl⟩ (Zf (Zd rfl (YG _))) ?_
   refine Zc 3 rfl rfl ⟨[0,1,2,3,4,5,6],by decide,rfl⟩ (Zf (Zi Tryz.underlying135 rfl rfl (by exact Zp 2 rfl rfl))) ?_
   refine Zc 4 rfl rfl ⟨[0,1,2,3,4,5,6],by decide,rfl⟩ (Zf (Zd rfl (XG _))) ?_
   refine Zc 5 rfl rfl ⟨[0,1,2,3,4,5,6],by decide,rfl⟩ (Zf (Zi Tryz.underlying3 rfl rfl (by exact Zp 0 rfl rfl))) ?_
   refine Zc 6 rfl rfl ⟨[0,1,2,3,4,5,6],by decide,rfl⟩ (Zf (XK 3 HV rfl Tryz.underlying135 Tryz.underlying3 Y3 rfl rfl)) ?_
   refine Zc 7 rfl rfl ⟨[0,1,2,3,4,5,6],by decide,rfl⟩ (Zf (Zo rfl)) ?_
   refine Zc 8 rfl rfl ⟨[0,1,2,3,4,5,6],by decide,rfl⟩ (Zf (ZD rfl rfl)) ?_
   refine Zc 9 rfl rfl ⟨[0,1,2,3,4,5,6],by decide,rfl⟩ (Zf (ZD rfl rfl)) ?_
   refine ZK 10 rfl (.inr ⟨[0,1,2,3,4,5,6],by decide,rfl⟩) (ZU Y3 rfl rfl (fun b8=>?_))
   rw [hg,Option.map_some,Option.getD_some,Option.isSome_some]
   refine ZK 11 rfl (.inr ⟨[1,2,3,4,5,6,7],by decide,rfl⟩) (Zz 0 Y3 rfl rfl rfl rfl rfl rfl (by rfl) ?_)
   refine ZK 12 rfl (.inr ⟨[1,2,3,4,5,6,7],by decide,rfl⟩) (Zm rfl (ZY rfl) ?_)
   refine ZP (.inl (by kernel_rfl)) ?_
   refine Ze<|Zb<|Za<|gm rfl rfl<|gr rfl (rd_not rfl)<|gm rfl rfl<|Zg rfl rfl<|Zm rfl (Zd rfl (Zbt _))<|Zg rfl rfl<|Zm rfl (Zd rfl (Wf _))<|Zg rfl rfl (Zm rfl (Zi Tryz.underlying136 rfl rfl (by exact Zp 0 rfl rfl)) ?_)
   refine Zg rfl rfl<|Zm rfl (Zd rfl (Wf _))<|Zg rfl rfl (Zm rfl (Zi Tryz.underlying136 rfl rfl (by exact Zp 1 rfl rfl)) ?_)
   refine Zg rfl rfl (Zm rfl (ZX rfl rfl) (Zw (fun h45=>?_) (fun h45=>?_)))
   ·refine gr rfl (Zn rfl rfl)<|gA<|Zk rfl<|Zb<|Za<|gas rfl rfl<|gA<|Zu<|Zx<|Zh<|Zh<|Zx<|Zh ?_
    have hco:XP f.b (plain m) j q=false:=by unfold XP; rw [show XI (enB f.b j q) (plain m)=true by unfold XI enB; rw [hzs]; rw [show YY (En.key ⟨keyP zs,numTo zs 4,Xn zs,j,q⟩) (plain m)=some o.en from (hms.get hg).2.2.2]; exact decide_eq_true (by simp only; omega),hzs,hbd]; rfl
    refine Zy (.inl rfl) Tryz.results71 rfl [3,4,5,6,7] (by decide) ?_
    exact ⟨by rw [Zf0 (by omega) hco],rfl⟩
   refine gr rfl (Zn rfl rfl)<|gA<|Zl rfl<|Zv<|ZI<|Ze<|Za<|gr rfl (by exact ZL (b:=1) rfl rfl (by omega)) ?_
   refine gm rfl rfl<|ZM<|Ze ?_
   have hco:XP f.b (plain m) j q=true:=by unfold XP; rw [show XI (enB f.b j q) (plain m)=false by unfold XI enB; rw [hzs]; rw [show YY (En.key ⟨keyP zs,numTo zs 4,Xn zs,j,q⟩) (plain m)=some o.en from (hms.get hg).2.2.2]; exact decide_eq_false (by simp only; omega)]; simp
   exact ZR (q+1) ⟨⟨by omega,fun i hi=>by rcases (show i<q∨i=q by omega) with h | h; exact hcv i h; rw [h]; exact hco⟩,by omega⟩ ⟨rfl,rfl,rfl,trivial⟩ ⟨[3,4,5,6,7],by decide,rfl⟩
  refine gA<|Zb<|Zk rfl<|Zv<|Ze<|Zb<|ZB<|Zb<|Za<|gm rfl rfl<|gas rfl rfl<|gA<|Zb<|Za<|gm rfl rfl<|gnc rfl rfl<|gr rfl (Zd rfl (X3 _))<|gr rfl (Zi Tryz.underlying32 rfl rfl (by exact Zp 0 rfl rfl)) ?_
  refine gm rfl rfl<|gm rfl rfl<|gr rfl (ZT rfl (fun _=>Jp _ _)) ?_
  refine Zt (ZJ rfl (vf:=[]) (vc:=[]) rfl rfl Tryz.call108 (fun w1 ho=>Zhv f hf bf gb cb rp cp w1 (ho.blkCells 2 rfl) hcb j q (by omega)) ?_)
  rintro _ _ ⟨rfl,rfl⟩
  refine Zt (ZJ rfl (vf:=[]) (vc:=[]) rfl rfl Tryz.call107 (fun w1 ho=>Zhw zs hz8 hzl (some ⟨gb,j * 256+q * 24,none⟩) (cb - (j * 256+q * 24)) (by omega) w1 (by rw [← hzs]; unfold slotB; rw [← JL]; exact Zc1 (ho.rowSl 3 rfl) (j * 256+q * 24) 24 (by omega)) hbd) ?_)
  rintro _ _ ⟨rfl,rfl⟩
  refine gm rfl rfl<|gr rfl (ZD rfl rfl)<|gr rfl (ZD rfl rfl)<|Zt (ZU Yl rfl rfl (fun b6=>?_))
  refine Zt (Zz 0 Yl rfl rfl rfl rfl rfl rfl (by rfl) ?_)
  refine gas rfl rfl<|gA<|Zb<|Zb<|Za<|gm rfl rfl<|gr rfl (rd_not rfl)<|gA<|Zk rfl<|Z1<|Zs<|ZE<|Ze<|Za<|gr rfl (by exact ZL (b:=1) rfl rfl (by omega)) ?_
  refine gm rfl rfl<|ZM<|Ze ?_
  have hco:XP f.b (plain m) j q=true:=by unfold XP; rw [hzs,hbd]; rfl
  exact ZR (q+1) ⟨⟨by omega,fun i hi=>by rcases (show i<q∨i=q by omega) with h | h; exact hcv i h; rw [h]; exact hco⟩,by omega⟩ ⟨rfl,rfl,rfl,trivial⟩ ⟨[1,2,3,4,5],by decide,rfl⟩
 refine gA<|Zb<|Zl rfl<|Z1<|Zs<|Zs<|ZE<|Ze<|Zb<|Za<|gas rfl rfl<|gA<|Zu<|Zy (.inl rfl) Tryz.results71 rfl [0,1,2,3,4] (by decide) ?_
 exact ⟨by rw [Zo6 (fun i hi=>hcv i (by omega))],rfl⟩
theorem Zlg (f:Fl) (hf:f.Ok) (bs bf:Nat) (gb:Nat) (cb:Nat) (rp:Option Nat) (cp:Nat) (id bm num:Nat) (free:Int) (w0:World) (hs:Cells w0 ⟨bs,0,none⟩ [.bool true,.pointer (some ⟨bf,0,none⟩),natV id,.map (some bm),.int .u32 (num:Nat),.int .i64 free]) (hc:Cells w0 ⟨bf,0,none⟩ (f.cells (some gb) cb rp cp)) (hb:OldSl w0 [] (rowA (some gb)) f.b.length 1 (f.b.map u8V)) (hcb:f.b.length≤cb):Sp Tryz.prog 186 [.pointer (some ⟨bs,0,none⟩)] w0 [] (RoomR f.b free):=by
 have hbl:=hf.hi
 have hbl0:=hf.lo
 have hblm:=hf.len
 refine ZC Tryz.func186 rfl Tryz.ntmps186 rfl (Own.refl _) ?_
 simp only [ZV]
 refine Zb<|Za<|Zt (ZU Yq rfl rfl (fun b2=>?_))
 refine gas rfl rfl<|gA<|gc_scope<|Zb<|Za<|Zt (ZU Yq rfl rfl (fun b4=>?_))
 refine gA<|Zb<|Za<|gas rfl rfl<|gA<|Zb<|gc_label<|Ze<|Zb<|Zb<|Za<|gm rfl rfl<|gnc rfl rfl<|gr rfl (Zd rfl (X3 _))<|gr rfl (Zi Tryz.underlying32 rfl rfl (Yj (j:=1) hs (by simp) rfl)) ?_
 refine Zt (ZJ rfl (vf:=[]) (vc:=[]) rfl rfl Tryz.call41 (fun w1 ho=>Zaa f hf bf (some gb) cb rp cp w1 (hc.at ho)) ?_)
 rintro _ _ ⟨rfl,rfl⟩
 refine gm rfl rfl<|gA<|ZB<|ZZ (ι:=Nat × Nat × Nat) [(0,_),(2,_),(4,_),(12,_)] [_] (fun j=>j.1≤f.b.length / 256∧∀ bk sl,bk<j.1→sl<10→(bk:Int)≠free→Yw (slotB f.b bk sl)≠0) (fun j Fr0=>((5,.bool false)::(13,natV j.1)::Fr0)) (fun j Fr0=>(.blk b4 [natV j.2.1,natV j.2.2] 182::Fr0)) (fun j=>f.b.length / 256 - j.1) (0,0,0) (⟨Nat.zero_le _,fun bk sl h=>absurd h (Nat.not_lt_zero _)⟩) ⟨rfl,rfl,rfl,rfl,rfl,rfl,trivial⟩ ⟨[0,1],by decide,rfl⟩ ?_
 rintro ⟨j,pb,ps⟩ ⟨hj,hno⟩
 simp only at hj hno ⊢
 refine Zb<|Za<|gr rfl (ZX rfl rfl) (Zw (fun h14=>?_) (fun h14=>?_))
 ·refine gA<|Zb<|Zk rfl<|Zv<|Ze<|Zb<|ZB<|Zb<|Za<|gm rfl rfl<|gas rfl rfl<|gA<|Zb<|Za<|gm rfl rfl<|gA<|ZB<|ZZ (ι:=Nat × Nat × Nat) [(0,_),(2,_),(4,_),(6,_),(12,_),(13,_)] [_] (fun q=>q.1≤10∧∀ sl,sl<q.1→(j:Int)≠free→Yw (slotB f.b j sl)≠0) (fun q Fr0=>((5,.bool false)::(16,natV q.1)::Fr0)) (fun q Fr0=>(.blk b4 [natV q.2.1,natV q.2.2] 182::Fr0)) (fun q=>10 - q.1) (0,pb,ps) (⟨Nat.zero_le _,fun sl h=>absurd h (Nat.not_lt_zero _)⟩) ⟨rfl,rfl,rfl,rfl,rfl,rfl,rfl,rfl,trivial⟩ ⟨[0,1],by decide,rfl⟩ ?_
  rintro ⟨q,pb,ps⟩ ⟨hq,hno2⟩
  simp only at hq hno2 ⊢
  refine Zb<|Za<|gr rfl (ZX rfl rfl) (Zw (fun h17=>?_) (fun h17=>?_))
  ·refine gA<|Zb<|Zk rfl<|Zv<|Ze<|Zb<|ZB<|Zb<|Za<|gm rfl rfl<|gas rfl rfl<|gA<|Zb<|Zb<|Za<|gm rfl rfl<|gm rfl rfl<|gnc rfl rfl<|gr rfl (Zd rfl (Vk _))<|gr rfl (Zi Tryz.underlying3 rfl rfl (Yj (j:=5) hs (by simp) rfl)) ?_
   refine gr rfl (Z8 rfl rfl) (Zw (fun h24=>?_) (fun h24=>?_))
   ·refine gA<|Zk rfl<|Z1<|Zs<|WJ rfl<|Zs<|Zs<|WJ rfl<|ZE<|Ze<|Za<|gr rfl (by exact ZL (b:=1) rfl rfl (by omega)) ?_
    refine gm rfl rfl<|ZM<|Ze ?_
    exact ZR ((j+1,pb,ps)) ⟨⟨by simp only; omega,fun bk sl h1 h2 h3=>by simp only at h1; rcases (show bk<j∨bk=j by omega) with h | h; exact hno bk sl h h2 h3; subst h; exact absurd h24.symm (fun e=>h3 e.symm)⟩,by simp only; omega⟩ ⟨rfl,rfl,rfl,rfl,rfl,rfl,trivial⟩ ⟨[0,1],by decide,rfl⟩
   obtain ⟨zs,hzs⟩:∃ zs,slotB f.b j q=zs:=⟨_,rfl⟩
   have hzl:zs.length=24:=by rw [← hzs]; exact VR (by omega)
   have hz8:∀ z∈zs,z<256:=by rw [← hzs]; exact VJ hf.bs j q
   refine gA<|Zl rfl<|Zv<|Ze<|Zb<|Za<|gm rfl rfl<|gm rfl rfl<|gr rfl (ZT rfl (fun _=>Jp _ _)) ?_
   refine Zt (Zz 0 Yq rfl rfl rfl rfl rfl rfl (by rfl) ?_)
   refine gA<|Zb<|ZO [0,1] true 6 rfl<|Zc 0 rfl rfl ⟨[0,1],by decide,rfl⟩ (Zf (Zo rfl)) ?_
   refine Zc 1 rfl rfl ⟨[0,1],by decide,rfl⟩ (Zf (ZN rfl)) ?_
   refine Zc 2 rfl rfl ⟨[0,1],by decide,rfl⟩ (Zf (Zd rfl (X3 _))) ?_
   refine Zc 3 rfl rfl ⟨[0,1],by decide,rfl⟩ (Zf (Zi Tryz.underlying32 rfl rfl (Yj (j:=1) hs (by simp) rfl))) ?_
   refine Zc 4 rfl rfl ⟨[0,1],by decide,rfl⟩ (Zf (Zr Tryz.underlying182 rfl Yq rfl (by exact ZH 0 (off:=0) (k:=2) rfl rfl) rfl)) ?_
   refine Zc 5 rfl rfl ⟨[0,1],by decide,rfl⟩ (YE (vf:=[]) (vc:=[]) rfl rfl Tryz.call108 (fun w1 ho=>Zhv f hf bf gb cb rp cp w1 (hc.at ho) hcb j q (by omega)) (by rintro _ _ ⟨h,_⟩; exact h)) ?_
   refine Zc 6 rfl rfl ⟨[0,1],by decide,rfl⟩ (YE (vf:=[]) (vc:=[]) rfl rfl Tryz.call106 (fun w1 ho=>by have h:=Zm6 zs hz8 (some ⟨gb,j * 256+q * 24,none⟩) (cb - (j * 256+q * 24)) w1 (by rw [hzl,← hzs]; unfold slotB; rw [← JL]; exact Zc1 (hb.at ho) (j * 256+q * 24) 24 (by omega)) (by omega); rw [hzl] at h; exact h) (by rintro _ _ ⟨h,_⟩; exact h)) ?_
   refine Z0 (fun hem=>?_) (fun hem=>?_)
   ·refine ZP (.inr ⟨[0,1],by decide,rfl⟩) ?_
    refine Ze<|Zk rfl<|Zb<|Za<|gas rfl rfl<|gA<|Z1<|WJ rfl<|Zs<|Zs<|WJ rfl<|WJ rfl<|Zs<|Zs<|ZE<|Ze<|Zb<|Za<|gr rfl (Zr Tryz.underlying182 rfl Yq rfl (by exact ZH 0 (off:=0) (k:=2) rfl rfl) rfl) ?_
    refine gm rfl rfl<|Zt (Zz 1 Yq rfl rfl rfl rfl rfl rfl (by rfl) ?_)
    refine gas rfl rfl<|gA<|Zu<|Zdj<|YF (.inl rfl) Tryz.results186 (YC Tryz.underlying182 rfl Yq rfl (by rfl) (ZH 1 (off:=0) (k:=2) rfl rfl)) (YU rfl) [] (by decide) ?_
    exact ⟨rfl,.inl ⟨j,q,rfl,by omega,by omega,fun e=>h24 e,by rw [hzs]; exact of_decide_eq_true hem⟩⟩
   refine ZP (.inr ⟨[0,1],by decide,rfl⟩) ?_
   refine Ze<|Zl rfl<|Zv<|ZI<|Ze<|Za<|gr rfl (by exact ZL (b:=1) rfl rfl (by omega)) ?_
   refine gm rfl rfl<|ZM<|Ze ?_
   exact ZR ((q+1,j,q)) ⟨⟨by simp only; omega,fun sl h1 h3=>by simp only at h1; rcases (show sl<q∨sl=q by omega) with h | h; exact hno2 sl h h3; rw [h,hzs]; exact of_decide_eq_false hem⟩,by simp only; omega⟩ ⟨rfl,rfl,rfl,rfl,rfl,rfl,rfl,rfl,trivial⟩ ⟨[0,1],by decide,rfl⟩
  refine gA<|Zb<|Zl rfl<|Z1<|Zs<|Zs<|ZE<|ZI<|Ze<|Za<|gr rfl (by exact ZL (b:=1) rfl rfl (by omega)) ?_
  refine gm rfl rfl<|ZM<|Ze ?_
  exact ZR ((j+1,pb,ps)) ⟨⟨by simp only; omega,fun bk sl h1 h2 h3=>by simp only at h1; rcases (show bk<j∨bk=j by omega) with h | h; exact hno bk sl h h2 h3; subst h; exact hno2 sl (by omega) h3⟩,by simp only; omega⟩ ⟨rfl,rfl,rfl,rfl,rfl,rfl,trivial⟩ ⟨[0,1],by decide,rfl⟩
 refine gA<|Zb<|Zl rfl<|Z1<|Zs<|Zs<|ZE<|Ze<|Zb<|Za<|gr rfl (Zr Tryz.underlying182 rfl Yq rfl (by exact ZH 0 (off:=0) (k:=2) rfl rfl) rfl) ?_
 refine gm rfl rfl<|Zt (Zz 1 Yq rfl rfl rfl rfl rfl rfl (by rfl) ?_)
 refine gas rfl rfl<|gA<|Zu<|Zdj<|YF (.inl rfl) Tryz.results186 (YC Tryz.underlying182 rfl Yq rfl (by rfl) (ZH 1 (off:=0) (k:=2) rfl rfl)) (YU rfl) [] (by decide) ?_
 exact ⟨rfl,.inr ⟨pb,ps,rfl,fun bk sl h1 h2 h3=>hno bk sl (by omega) h2 h3⟩⟩
namespace Iv
structure Fresh (f:Fl) (n:Nat):Prop where
  ok:f.Ok
  dn:f.down=false
  left:f.left = -1
  bl:f.b=List.replicate f.b.length 255
  len:f.b.length=256 * n
  pr:f.pr=0
  er:f.er=0
theorem Zju {n:Nat} (h4:4≤n) (h64:n≤64):Fresh (flNew (List.replicate (256 * n) 255)) n:=by
 have hl:(flNew (List.replicate (256 * n) 255)).b.length=256 * n:=List.length_replicate
 refine ⟨⟨fun z hz=>?_,(fun z hz=>by cases hz),by rw [hl]; omega,by rw [hl]; omega,by rw [hl]; omega,Nat.zero_le _,(by decide:(0:Nat)<4611686018427387904),(by decide:(0:Nat)<4611686018427387904),(by decide:(0:Nat)<4611686018427387904),(by decide:(-1:Int)≤-1),(by decide:(-1:Int)≤9223372036854775807)⟩,rfl,rfl,by rw [hl]; rfl,hl,rfl,rfl⟩
 rw [List.eq_of_mem_replicate hz]; decide
end Iv
namespace Iv
theorem Ze4 {f:Fl} (hf:f.Ok) (he:f.er+1<4611686018427387904) (at_:Int):(Yy f at_).1.Ok∧(Yy f at_).1.er≤f.er+1∧(Yy f at_).1.b.length=f.b.length∧(Yy f at_).1.st=f.st∧(Yy f at_).1.pr=f.pr:=by
 unfold Yy
 split
 ·exact ⟨hf,Nat.le_succ _,rfl,rfl,rfl⟩
 ·rename_i h
  have hat:0≤at_∧at_<((f.b.length / 256:Nat):Int):=by
   unfold Y1 at h
   split at h
   ·exact absurd (by decide) h
   ·split at h
    ·exact absurd (by decide) h
    ·omega
  have hlm:=hf.len
  obtain ⟨s1,s2,s3⟩:=Zc2 { f with er:=f.er+1 }
  obtain ⟨l0,l1⟩:=Zd6 (f:={ f with er:=f.er+1 }) hf.l0 hf.l1
  have hpk:=VI { f with er:=f.er+1 }
  unfold Xv
  have hbb:∀ z∈(if !(flFails { f with er:=f.er+1 }).down || decide (f.picks.length=0) then f.b.take (at_.toNat * 256)++List.replicate 256 255++f.b.drop (at_.toNat * 256+256) else orTo f.picks f.b (at_.toNat * 256) 256),z<256:=by
   split
   ·intro z hz
    rcases List.mem_append.1 hz with hz | hz
    ·rcases List.mem_append.1 hz with hz | hz
     ·exact hf.bs z (List.mem_of_mem_take hz)
     ·rw [List.eq_of_mem_replicate hz]; decide
    ·exact hf.bs z (List.mem_of_mem_drop hz)
   ·exact Zgl hf.bs hf.ps _ _
  have hbl:(if !(flFails { f with er:=f.er+1 }).down || decide (f.picks.length=0) then f.b.take (at_.toNat * 256)++List.replicate 256 255++f.b.drop (at_.toNat * 256+256) else orTo f.picks f.b (at_.toNat * 256) 256).length=f.b.length:=by
   split
   ·simp only [List.length_append,List.length_take,List.length_replicate,List.length_drop]; omega
   ·exact J9 _ _ _ _
  generalize (if !(flFails { f with er:=f.er+1 }).down || decide (f.picks.length=0) then f.b.take (at_.toNat * 256)++List.replicate 256 255++f.b.drop (at_.toNat * 256+256) else orTo f.picks f.b (at_.toNat * 256) 256)=B at hbb hbl ⊢
  have hpr:=hf.pr
  have hst:=hf.st
  refine ⟨⟨hbb,by rw [hpk]; exact hf.ps,by simp only [hbl]; exact hf.len,by simp only [hbl]; exact hf.lo,by simp only [hbl]; exact hf.hi,by rw [hpk]; exact hf.pl,?_,?_,?_,l0,l1⟩,?_,hbl,s1,s2⟩
  ·simp only [s2]; exact hpr
  ·simp only [s3]; exact he
  ·simp only [s1]; exact hst
  ·simp only [s3]; exact Nat.le_refl _
def K0 : Fl:=flNew (List.replicate (256 * 4) 255)
def K1 : Fl:=(YO K0 5 15).1
def K2 : Fl:=(YO K1 5 243).1
def K3 : Fl:=(flFuse K2 1 [48]).1
end Iv
namespace Iv
abbrev Za4 (b:List Nat) (bk:Nat):Prop:=Yw ((b.drop (bk * 256)).take 256)=0
def Zd7 (b:List Nat):Prop:=∀ bk,bk<b.length / 256→¬ Za4 b bk
def Vz (b:List Nat) (bk:Nat):Bool:=Zb0 b (VQ b bk 0).2 bk
def NumB (b:List Nat) (N:Nat):Prop:=∀ bk sl,bk<b.length / 256→sl<10→W1 (slotB b bk sl)=false→(enB b bk sl).num≤N
theorem scStep_2 (b:List Nat) (but:Int) (bk:Nat) (n n':Nat) (P:List En) (sl:Nat):(VU b but bk (n,P) sl).2=(VU b but bk (n',P) sl).2:=by
 unfold VU; split <;> rfl
theorem Zqg (b:List Nat) (but:Int) (bk:Nat) (n n':Nat) (P:List En):∀ k,(WW b but bk (n,P) k).2=(WW b but bk (n',P) k).2
  | 0=>rfl
  | k+1=>by
    rw [Xo,Xo]
    have ih:=Zqg b but bk n n' P k
    obtain ⟨a,hA⟩:∃ a,WW b but bk (n,P) k=a:=⟨_,rfl⟩
    obtain ⟨c,hC⟩:∃ c,WW b but bk (n',P) k=c:=⟨_,rfl⟩
    rw [hA,hC] at ih ⊢
    obtain ⟨a1,a2⟩:=a
    obtain ⟨c1,c2⟩:=c
    simp only at ih
    subst ih
    exact scStep_2 b but bk a1 c1 a2 k
theorem scTo_2 (b:List Nat) (but:Int) (n n':Nat):∀ k,(Zgd b but n k).2=(Zgd b but n' k).2
  | 0=>rfl
  | k+1=>by
    rw [Zac,Zac]
    have ih:=scTo_2 b but n n' k
    obtain ⟨a,hA⟩:∃ a,Zgd b but n k=a:=⟨_,rfl⟩
    obtain ⟨c,hC⟩:∃ c,Zgd b but n' k=c:=⟨_,rfl⟩
    rw [hA,hC] at ih ⊢
    obtain ⟨a1,a2⟩:=a
    obtain ⟨c1,c2⟩:=c
    simp only at ih
    subst ih
    exact Zqg b but k a1 c1 a2 10
theorem scan_2 (b:List Nat) (but:Int) (n n':Nat):(VQ b but n).2=(VQ b but n').2:=scTo_2 b but n n' _
theorem Zo7 {b:List Nat} {N:Nat} (hN:NumB b N) {but:Int} {bk sl:Nat} (h1:bk<b.length / 256) (h2:sl<10) {s:Nat × List En} (hs:s.1≤N):(VU b but bk s sl).1≤N:=by
 unfold VU
 split
 ·exact hs
 ·rename_i h
  have hb:W1 (slotB b bk sl)=false:=by
   cases h':W1 (slotB b bk sl) with
   | false=>rfl
   | true=>exact absurd (.inl h') h
  exact Nat.max_le.2 ⟨hs,hN bk sl h1 h2 hb⟩
theorem Zjv {b:List Nat} {N:Nat} (hN:NumB b N) {but:Int} {bk:Nat} (h1:bk<b.length / 256) {s:Nat × List En} (hs:s.1≤N):∀ k,k≤10→(WW b but bk s k).1≤N
  | 0,_=>hs
  | k+1,h=>by rw [Xo]; exact Zo7 hN h1 (by omega) (Zjv hN h1 hs k (by omega))
theorem Zm7 {b:List Nat} {N:Nat} (hN:NumB b N) {but:Int} {n:Nat} (hn:n≤N):∀ k,k≤b.length / 256→(Zgd b but n k).1≤N
  | 0,_=>hn
  | k+1,h=>by rw [Zac]; exact Zjv hN (by omega) (Zm7 hN hn k (by omega)) 10 (by omega)
theorem Zhy {b:List Nat} {N:Nat} (hN:NumB b N) {but:Int} {n:Nat} (hn:n≤N):(VQ b but n).1≤N:=Zm7 hN hn _ (Nat.le_refl _)
def Zd8 (f1 f2:Fl) (bk:Nat):Prop:=bk<f1.b.length / 256∧((f2=f1∧Za4 f1.b bk)∨(Zd7 f1.b∧Vz f1.b bk=true∧Yy f1 (bk:Int)=(f2,0)))
end Iv
theorem Open_ok (f:Fl) (hf:f.Ok) (bf:Nat) (rb:Option Nat) (cb:Nat) (rp:Option Nat) (cp:Nat) (S:List Nat) (w0:World) (hown:Own w0 S w0 (FlH bf rb cb rp cp f)) (hst:f.st+1<4611686018427387904) (her:f.er+2<4611686018427387904) (hdn:f.down=false):Sp Tryz.prog 28 [.pointer (some ⟨bf,0,none⟩)] w0 S (fun v L=>(∃ (bs bm:Nat) (m:List (ME He)) (nb:Nat) (T:List HL) (num num0:Nat) (f2:Fl) (bk:Nat),v=.tuple #[.pointer (some ⟨bs,0,none⟩),.int .i64 0]∧Zd8 { f with st:=f.st+1 } f2 bk∧f2.Ok∧f2.b.length=f.b.length∧(∀ N,NumB f.b N→num0≤N)∧(num,plain m)=VQ f2.b (-1) num0∧num<4294967296∧MSt m nb T∧L=(.blk bs [.bool true,.pointer (some ⟨bf,0,none⟩),natV (f.st+1),.map (some bm),.int .u32 ((num:Nat):Int),.int .i64 ((bk:Nat):Int)] 138 :: .obj bm (X0 HV m nb)::(FlH bf rb cb rp cp f2++T)))∨(∃ bk:Nat,bk<f.b.length / 256∧Zd7 f.b∧Vz f.b bk=true∧(Yy { f with st:=f.st+1 } (bk:Int)).2≠0∧v=.tuple #[.pointer none,.int .i64 (Yy { f with st:=f.st+1 } (bk:Int)).2]∧L=FlH bf rb cb rp cp (Yy { f with st:=f.st+1 } (bk:Int)).1)∨(Zd7 f.b∧(∀ bk,bk<f.b.length / 256→Vz f.b bk=false)∧v=.tuple #[.pointer none,.int .i64 6]∧L=FlH bf rb cb rp cp { f with st:=f.st+1 })):=by
 have hbl:=hf.hi
 have hbl0:=hf.lo
 have hblm:=hf.len
 refine ZC Tryz.func28 rfl Tryz.ntmps28 rfl hown ?_
 simp only [ZV]
 refine Zb<|Za<|gas rfl rfl<|gas rfl rfl<|gA<|Zb<|ZB<|Zb<|Za<|gm rfl rfl<|Zt (ZJ rfl (vf:=[]) (vc:=[]) rfl rfl Tryz.call38 (fun w1 ho=>none_q f hf bf rb cb rp cp w1 (ho.blkCells 0 rfl)) ?_)
 rintro _ _ ⟨rfl,rfl⟩
 refine gas rfl rfl<|gA<|Zl rfl<|Zb<|Za<|gm rfl rfl<|gnc rfl rfl<|gr rfl (Zd rfl (Wv _))<|gr rfl (Zi Tryz.underlying4 rfl rfl (by exact Zp 0 rfl rfl)) ?_
 refine Z0 (fun hd=>?_) (fun hd=>?_)
 ·rw [hdn] at hd; cases hd
 refine gas rfl rfl<|gA<|Zl rfl<|Zv<|ZI<|Ze<|Zb<|Za<|gm rfl rfl<|gnc rfl rfl<|gr rfl (Zd rfl (Zdu _))<|gr rfl (Zi Tryz.underlying3 rfl rfl (by exact Zp 0 rfl rfl)) ?_
 refine gr rfl (by exact ZL (b:=1) rfl rfl (by omega)) ?_
 refine gnc rfl rfl<|gr rfl (Zd rfl (Zdu _))<|Zt (Yc 0 Y7 rfl rfl rfl rfl rfl (by rfl) (by rfl) ?_)
 refine gA<|Zb ?_
 have hf1:({ f with st:=f.st+1 }:Fl).Ok:=⟨hf.bs,hf.ps,hf.len,hf.lo,hf.hi,hf.pl,hf.pr,hf.er,hst,hf.l0,hf.l1⟩
 change GK _ _ _ _ _ _ [.blk bf (Fl.cells { f with st:=f.st+1 } rb cb rp cp) 115,.row 5 1 rb (Fl.b { f with st:=f.st+1 }).length cb ((Fl.b { f with st:=f.st+1 }).map u8V),.row 5 1 rp (Fl.picks { f with st:=f.st+1 }).length cp ((Fl.picks { f with st:=f.st+1 }).map u8V)]
 obtain ⟨f1,hf1e⟩:∃ f1,f1=({ f with st:=f.st+1 }:Fl):=⟨_,rfl⟩
 rw [← hf1e] at hf1 ⊢
 have hb1:f1.b=f.b:=by rw [hf1e]
 have hls:f1.b.length=f.b.length:=by rw [hb1]
 have hst1:f1.st=f.st+1:=by rw [hf1e]
 have hm1:f1.er≤f.er:=by rw [hf1e]; exact Nat.le_refl _
 refine Za<|gm rfl rfl<|gm rfl rfl<|gnc rfl rfl<|gr rfl (Zd rfl (Zdu _))<|gr rfl (Zi Tryz.underlying3 rfl rfl (by exact Zp 0 rfl rfl)) ?_
 refine gr rfl (ZT rfl (fun _=>Zhj _ _ _ _)) ?_
 refine Zt (Z6 rfl rfl rfl (fun b29=>?_))
 refine gas rfl rfl<|gA<|Zb<|Zb<|Za<|gm rfl rfl<|Zt (ZJ rfl (vf:=[]) (vc:=[]) rfl rfl Tryz.call41 (fun w1 ho=>Zaa f1 hf1 bf rb cb rp cp w1 (ho.blkCells 1 rfl)) ?_)
 rintro _ _ ⟨rfl,rfl⟩
 refine gm rfl rfl<|gA<|ZB<|ZZ (ι:=Nat × Int) [(0,_),(4,_),(31,_)] [_,_,_] (fun j=>j.1≤f1.b.length / 256∧((j.2 = -1∧∀ bk,bk<j.1→¬ Za4 f1.b bk)∨∃ bk:Nat,j.2=(bk:Int)∧bk<f1.b.length / 256∧Za4 f1.b bk)) (fun j Fr0=>((32,natV j.1)::Fr0)) (fun j Fr0=>(.blk b29 [.bool true,.pointer (some ⟨bf,0,none⟩),natV f1.st,.map none,.int .u32 ((0:Nat):Int),.int .i64 j.2] 138::Fr0)) (fun j=>f1.b.length / 256 - j.1) (0,-1) (⟨Nat.zero_le _,.inl ⟨rfl,fun bk h=>absurd h (Nat.not_lt_zero _)⟩⟩) ⟨rfl,rfl,rfl,rfl,trivial⟩ ⟨[0,1,2,3],by decide,rfl⟩ ?_
 rintro ⟨j,fr⟩ ⟨hj,hfr⟩
 simp only at hj hfr ⊢
 refine Zb<|Za<|gr rfl (ZX rfl rfl) (Zw (fun h33=>?_) (fun h33=>?_))
 ·refine gA<|Zb<|Zk rfl<|Zv<|Ze<|Zb<|ZB<|Zb<|Za<|gm rfl rfl<|gas rfl rfl<|gA<|Zb<|Za<|gm rfl rfl<|gm rfl rfl<|Zt (Yi [1,2,3] [0] rfl (vf:=[]) (vc:=[]) rfl rfl Tryz.call69 (by decide) rfl (fun w how hc=>Zo2 f1 hf1 bf rb cb rp cp _ w hc j (by omega)) ?_)
  rintro _ _ ⟨rfl,rfl⟩
  refine Z0 (fun hem=>?_) (fun hem=>?_)
  ·refine gA<|Zk rfl<|Za<|gm rfl rfl<|gm rfl rfl<|gnc rfl rfl<|gr rfl (Zd rfl (Vk _))<|Zt (Yc 3 Y7 rfl rfl rfl rfl rfl (by rfl) (by rfl) ?_)
   refine ZM<|ZI<|Ze<|Za<|gr rfl (by exact ZL (b:=1) rfl rfl (by omega)) ?_
   refine gm rfl rfl<|ZM<|Ze ?_
   exact ZR ((j+1,(j:Int))) ⟨⟨by simp only; omega,.inr ⟨j,rfl,by omega,of_decide_eq_true hem⟩⟩,by simp only; omega⟩ ⟨rfl,rfl,rfl,rfl,trivial⟩ ⟨[3,0,1,2],by decide,rfl⟩
  refine gA<|Zl rfl<|Zv<|ZI<|Ze<|Za<|gr rfl (by exact ZL (b:=1) rfl rfl (by omega)) ?_
  refine gm rfl rfl<|ZM<|Ze ?_
  exact ZR ((j+1,fr)) ⟨⟨by simp only; omega,by rcases hfr with ⟨h1,h2⟩ | h; exact .inl ⟨h1,fun bk hbk=>by simp only at hbk; rcases (show bk<j∨bk=j by omega) with h3 | h3; exact h2 bk h3; rw [h3]; exact of_decide_eq_false hem⟩; exact .inr h⟩,by simp only; omega⟩ ⟨rfl,rfl,rfl,rfl,trivial⟩ ⟨[3,0,1,2],by decide,rfl⟩
 refine gA<|Zb<|Zl rfl<|Z1<|Zs<|Zs<|ZE<|Ze<|Zb<|Zb ?_
 have hfr2:fr = -1∧Zd7 f1.b∨∃ bk:Nat,fr=(bk:Int)∧bk<f1.b.length / 256∧Za4 f1.b bk:=by
  rcases hfr with ⟨h1,h2⟩ | h
  ·exact .inl ⟨h1,fun bk hbk=>h2 bk (by omega)⟩
  ·exact .inr h
 clear hfr
 have hne:fr<0→Zd7 f1.b:=fun h=>by
  rcases hfr2 with ⟨_,h2⟩ | ⟨bk,h1,_⟩
  ·exact h2
  ·omega
 refine Za<|gas rfl rfl<|gA<|ZB<|ZZ (ι:=Nat × Option Nat × Nat × Fl × Int) [(0,_),(4,_)] [] (fun i=>i.1≤f1.b.length / 256∧i.2.2.1<4294967296∧(∀ N,NumB f1.b N→i.2.2.1≤N)∧i.2.2.2.1.Ok∧i.2.2.2.1.b.length=f1.b.length∧i.2.2.2.1.er≤f.er+1∧((i.2.2.2.1=f1∧i.2.2.2.2=fr∧(fr<0→∀ bk,bk<i.1→Vz f1.b bk=false))∨(fr<0∧∃ bk:Nat,bk<f1.b.length / 256∧i.2.2.2.2=(bk:Int)∧Vz f1.b bk=true∧Yy f1 (bk:Int)=(i.2.2.2.1,0)))) (fun i Fr0=>((6,natV i.1)::Fr0)) (fun i Fr0=>(.blk b29 [.bool true,.pointer (some ⟨bf,0,none⟩),natV f1.st,.map i.2.1,.int .u32 ((i.2.2.1:Nat):Int),.int .i64 i.2.2.2.2] 138 :: .blk bf (Fl.cells i.2.2.2.1 rb cb rp cp) 115 :: .row 5 1 rb (Fl.b i.2.2.2.1).length cb ((Fl.b i.2.2.2.1).map u8V) :: .row 5 1 rp (Fl.picks i.2.2.2.1).length cp ((Fl.picks i.2.2.2.1).map u8V)::Fr0)) (fun i=>f.b.length / 256 - i.1) (0,none,0,f1,fr) (⟨Nat.zero_le _,(by decide:(0:Nat)<4294967296),fun _ _=>Nat.zero_le _,hf1,rfl,(Nat.le_succ_of_le hm1),.inl ⟨rfl,rfl,fun _ bk h=>absurd h (Nat.not_lt_zero _)⟩⟩) ⟨rfl,rfl,rfl,trivial⟩ ⟨[0,1,2,3],by decide,rfl⟩ ?_
 rintro ⟨j,mv,nu,f2,fr2⟩ ⟨hj,hnul,hnu,hf2,hl2,her2,hcase⟩
 simp only at hj hnul hnu hf2 hl2 her2 hcase ⊢
 refine Zb<|Zb<|Za<|gm rfl rfl<|gm rfl rfl<|Zt (ZJ rfl (vf:=[]) (vc:=[]) rfl rfl Tryz.call41 (fun w1 ho=>Zaa f2 hf2 bf rb cb rp cp w1 (ho.blkCells 1 rfl)) ?_)
 rintro _ _ ⟨rfl,rfl⟩
 refine gr rfl (ZX rfl rfl) (Zw (fun h46=>?_) (fun h46=>?_))
 ·refine gm rfl rfl<|Zg rfl rfl<|Zm rfl (Zo rfl)<|Zg rfl rfl<|Zm rfl (ZN rfl)<|Zg rfl rfl<|Zm rfl (Zd rfl (Vk _))<|Zg rfl rfl (Zm rfl (Zi Tryz.underlying3 rfl rfl (by exact Zp 0 rfl rfl)) ?_)
  refine Zg rfl rfl (Zm rfl (ZX rfl rfl) (Zw (fun h52=>?_) (fun h52=>?_)))
  ·obtain ⟨rfl,rfl,hns⟩:f1=f2∧fr=fr2∧(fr<0→∀ bk,bk<j→Vz f1.b bk=false):=by
    rcases hcase with h | ⟨_,bk,_,h3,_⟩
    ·exact ⟨h.1.symm,h.2.1.symm,h.2.2⟩
    ·omega
   clear hcase
   have hfr0:=h52
   refine gr rfl (Zq rfl rfl)<|gA<|Zk rfl<|Zv<|Ze<|Zb<|ZB<|Zb<|Za<|gm rfl rfl<|gm rfl rfl<|Zt (Yi [0,1,2,3] [] rfl (vf:=[]) (vc:=[]) rfl rfl Tryz.call70 (by decide) rfl (fun w how hc=>Zlf f1 hf1 b29 bf rb cb rp cp f1.st nu mv fr (j:Int) _ w hc hnul) ?_)
   rintro _ _ ⟨bm,m,nb,T,nu2,rfl,hms,hsc,hnu2,rfl⟩
   refine Jh [_,_,_,_,_] T []<|gA<|Zb<|Za<|gm rfl rfl<|gm rfl rfl<|Zt (Yr [_,_,_,_,_] T [0,1,2,3,4] [] 5 rfl rfl rfl (vf:=[]) (vc:=[]) rfl rfl Tryz.call71 (by decide) (by decide) rfl (fun w how hc=>spare_ok f1 hf1 b29 bf rb cb rp cp f1.st bm nu2 fr m nb T hms _ w hc j (by omega)) ?_)
   rintro _ _ ⟨rfl,rfl⟩
   rw [show plain m=(VQ f1.b j 0).2 by rw [← scan_2 f1.b j nu 0,← hsc]]
   refine Z0 (fun hsp=>?_) (fun hsp=>?_)
   ·refine gA<|Zk rfl<|Zb<|Zb<|Za<|gm rfl rfl<|gr rfl (Zo rfl) ?_
    obtain ⟨e1,e2,e3,e4,e5⟩:=Ze4 hf1 (by omega) (j:Int)
    refine Zt (Yr [_,_,_,_,_] T [2,3,4] [0,1] 5 rfl rfl rfl (vf:=[]) (vc:=[]) rfl rfl Tryz.call72 (by decide) (by decide) rfl (fun w how hc=>Zm4 f1 hf1 bf rb cb rp cp _ w hc (j:Int)) ?_)
    rintro _ _ ⟨rfl,rfl⟩
    refine gas rfl rfl<|gA<|Zb<|Za<|gm rfl rfl<|gr rfl (Z4 rfl rfl) (Zw (fun h66=>?_) (fun h66=>?_))
    ·refine gA<|Zk rfl<|Zb<|Za<|gm rfl rfl<|gas rfl rfl<|gas rfl rfl<|gA<|Zu<|Zh<|Zx<|Zh<|Zh<|Zx<|Zh<|Y5 (.inl rfl) Tryz.results28 rfl rfl [0,1,2] (by decide) ?_
     subst hf1e
     exact .inr (.inl ⟨j,by simp only at *; omega,hne (by omega),hsp,h66,rfl,rfl⟩)
    have he0:(Yy f1 (j:Int)).2=0:=Decidable.byContradiction h66
    refine gA<|Zl rfl<|Zv<|Ze<|Za<|gm rfl rfl<|gm rfl rfl<|gnc rfl rfl<|gr rfl (Zd rfl (Vk _))<|Zt (Yc 3 Y7 rfl rfl rfl rfl rfl (by rfl) (by rfl) ?_)
    refine ZM<|ZI<|Ze<|Za<|gm rfl rfl<|gr rfl (by exact ZL (b:=1) rfl rfl (by omega)) ?_
    refine gas rfl rfl<|ZM<|Ze ?_
    exact ZR ((j+1,some bm,nu2,(Yy f1 (j:Int)).1,(j:Int))) ⟨⟨by simp only; omega,hnu2,(fun N hN=>by rw [show nu2=(VQ f1.b j nu).1 by rw [← hsc]]; exact Zhy hN (hnu N hN)),e1,e3,by simp only; omega,.inr ⟨hfr0,j,by omega,rfl,hsp,by rw [← he0]⟩⟩,by simp only; omega⟩ ⟨rfl,rfl,rfl,trivial⟩ (Zl6 (A:=[_,_,_,_]) (B:=[_,_,_,_,_]) (T:=T) [3,0,1,2] 5 (by decide) (by decide) rfl rfl)
   refine gA<|Zl rfl<|Zv<|ZI<|Ze<|Za<|gm rfl rfl<|gr rfl (by exact ZL (b:=1) rfl rfl (by omega)) ?_
   refine gas rfl rfl<|ZM<|Ze ?_
   exact ZR ((j+1,some bm,nu2,f1,fr)) ⟨⟨by simp only; omega,hnu2,(fun N hN=>by rw [show nu2=(VQ f1.b j nu).1 by rw [← hsc]]; exact Zhy hN (hnu N hN)),hf1,rfl,(Nat.le_succ_of_le hm1),.inl ⟨rfl,rfl,fun h bk hbk=>by simp only at hbk; rcases (show bk<j∨bk=j by omega) with h2 | h2; exact hns h bk h2; rw [h2]; exact hsp⟩⟩,by simp only; omega⟩ ⟨rfl,rfl,rfl,trivial⟩ (Zl6 (A:=[_,_,_,_]) (B:=[_,_,_,_,_]) (T:=T) [0,2,3,4] 5 (by decide) (by decide) rfl rfl)
  refine gr rfl (Zq rfl rfl)<|gA<|Zl rfl<|Z1<|Zs<|Zs<|ZE<|Ze<|Zb<|Zb<|Za<|gm rfl rfl<|gnc rfl rfl<|gr rfl (Zd rfl (Vk _))<|gr rfl (Zi Tryz.underlying3 rfl rfl (by exact Zp 0 rfl rfl)) ?_
  refine gr rfl (ZX rfl rfl) (Zw (fun h76=>?_) (fun h76=>?_))
  ·refine gA<|Zk rfl<|Zb<|Za<|gas rfl rfl<|gas rfl rfl<|gA<|Zu<|Zh<|Y5 (.inl rfl) Tryz.results28 rfl rfl [1,2,3] (by decide) ?_
   obtain ⟨rfl,rfl,hns⟩:f1=f2∧fr=fr2∧(fr<0→∀ bk,bk<j→Vz f1.b bk=false):=by
    rcases hcase with h | ⟨_,bk,_,h3,_⟩
    ·exact ⟨h.1.symm,h.2.1.symm,h.2.2⟩
    ·omega
   subst hf1e
   exact .inr (.inr ⟨hne h76,fun bk hbk=>hns h76 bk (by omega),rfl,rfl⟩)
  refine gA<|Zl rfl<|Zv<|Ze<|Zb<|Za<|gm rfl rfl<|Zt (Yi [0,1,2,3] [] rfl (vf:=[]) (vc:=[]) rfl rfl Tryz.call70 (by decide) rfl (fun w how hc=>Zlf f2 hf2 b29 bf rb cb rp cp f1.st nu mv fr2 (-1) _ w hc hnul) ?_)
  rintro _ _ ⟨bm,m,nb,T,nu2,rfl,hms,hsc,hnu2,rfl⟩
  refine Jh [_,_,_,_,_] T []<|gA<|Zb<|Za<|gm rfl rfl<|gas rfl rfl<|gas rfl rfl<|gA<|Zu<|XE (.inl rfl) Tryz.results28 rfl rfl (YL 0 rfl) ?_
  obtain ⟨bk,hbe,hop⟩:∃ bk:Nat,fr2=(bk:Int)∧Zd8 f1 f2 bk:=by
   rcases hcase with ⟨h1,h2,h3⟩ | ⟨h0,bk,h1,h2,h3,h4⟩
   ·rcases hfr2 with ⟨h4,_⟩ | ⟨bk,h4,h5,h6⟩
    ·omega
    ·exact ⟨bk,by omega,h5,.inl ⟨h1,h6⟩⟩
   ·exact ⟨bk,h2,h1,.inr ⟨hne h0,h3,h4⟩⟩
  subst hbe
  subst hf1e
  exact .inl ⟨b29,bm,m,nb,T,nu2,nu,f2,bk,rfl,hop,hf2,hl2,hnu,hsc,hnu2,hms,rfl⟩
 refine gm rfl rfl<|Zj rfl rfl rfl<|Zj rfl rfl rfl<|Zj rfl rfl rfl<|Zj rfl rfl rfl<|Zj rfl rfl rfl<|gr rfl (Zn rfl rfl)<|gA<|Zl rfl<|Z1<|Zs<|Zs<|ZE<|Ze<|Zb<|Zb<|Za<|gm rfl rfl<|gnc rfl rfl<|gr rfl (Zd rfl (Vk _))<|gr rfl (Zi Tryz.underlying3 rfl rfl (by exact Zp 0 rfl rfl)) ?_
 refine gr rfl (ZX rfl rfl) (Zw (fun h76=>?_) (fun h76=>?_))
 ·refine gA<|Zk rfl<|Zb<|Za<|gas rfl rfl<|gas rfl rfl<|gA<|Zu<|Zh<|Y5 (.inl rfl) Tryz.results28 rfl rfl [1,2,3] (by decide) ?_
  obtain ⟨rfl,rfl,hns⟩:f1=f2∧fr=fr2∧(fr<0→∀ bk,bk<j→Vz f1.b bk=false):=by
   rcases hcase with h | ⟨_,bk,_,h3,_⟩
   ·exact ⟨h.1.symm,h.2.1.symm,h.2.2⟩
   ·omega
  subst hf1e
  exact .inr (.inr ⟨hne h76,fun bk hbk=>hns h76 bk (by omega),rfl,rfl⟩)
 refine gA<|Zl rfl<|Zv<|Ze<|Zb<|Za<|gm rfl rfl<|Zt (Yi [0,1,2,3] [] rfl (vf:=[]) (vc:=[]) rfl rfl Tryz.call70 (by decide) rfl (fun w how hc=>Zlf f2 hf2 b29 bf rb cb rp cp f1.st nu mv fr2 (-1) _ w hc hnul) ?_)
 rintro _ _ ⟨bm,m,nb,T,nu2,rfl,hms,hsc,hnu2,rfl⟩
 refine Jh [_,_,_,_,_] T []<|gA<|Zb<|Za<|gm rfl rfl<|gas rfl rfl<|gas rfl rfl<|gA<|Zu<|XE (.inl rfl) Tryz.results28 rfl rfl (YL 0 rfl) ?_
 obtain ⟨bk,hbe,hop⟩:∃ bk:Nat,fr2=(bk:Int)∧Zd8 f1 f2 bk:=by
  rcases hcase with ⟨h1,h2,h3⟩ | ⟨h0,bk,h1,h2,h3,h4⟩
  ·rcases hfr2 with ⟨h4,_⟩ | ⟨bk,h4,h5,h6⟩
   ·omega
   ·exact ⟨bk,by omega,h5,.inl ⟨h1,h6⟩⟩
  ·exact ⟨bk,h2,h1,.inr ⟨hne h0,h3,h4⟩⟩
 subst hbe
 subst hf1e
 exact .inl ⟨b29,bm,m,nb,T,nu2,nu,f2,bk,rfl,hop,hf2,hl2,hnu,hsc,hnu2,hms,rfl⟩
end Go.Proofs.YthcbcdjkfefnlaaGreatDoor
namespace Go.Proofs.YthcbcdjkfefnlaaGreatDoor
open Go.Gv
open Go.RowKit Go.Shelf Go.Sort
def sortRen : Ren:=⟨fun x=>match x with | 189=>92 | 125=>118 | 257=>117 | 128=>140 | 129=>141 | 294=>131 | 295=>132 | 296=>133 | 297=>134 | 298=>135 | 299=>136 | 216=>137 | 300=>138 | 301=>139 | 328=>146 | 329=>147 | 330=>148 | 331=>149 | 332=>150 | 215=>151 | 343=>158 | n=>n,fun x=>match x with | 28=>24 | 3=>3 | 46=>192 | 0=>0 | 51=>136 | 53=>207 | 4=>4 | 183=>215 | 182=>214 | 131=>219 | 5=>5 | 9=>9 | 218=>225 | 222=>229 | 228=>236 | 229=>237 | n=>n,fun x=>x⟩
theorem sortLaid : Lays.n189 Tryz.prog sortRen:={ mixed:=by kernel_rfl,f125:=Eq.trans Tryz.func118 (congrArg some (by kernel_rfl)),f128:=Eq.trans Tryz.func140 (congrArg some (by kernel_rfl)),f129:=Eq.trans Tryz.func141 (congrArg some (by kernel_rfl)),f189:=Eq.trans Tryz.func92 (congrArg some (by kernel_rfl)),f215:=Eq.trans Tryz.func151 (congrArg some (by kernel_rfl)),f216:=Eq.trans Tryz.func137 (congrArg some (by kernel_rfl)),f257:=Eq.trans Tryz.func117 (congrArg some (by kernel_rfl)),f294:=Eq.trans Tryz.func131 (congrArg some (by kernel_rfl)),f295:=Eq.trans Tryz.func132 (congrArg some (by kernel_rfl)),f296:=Eq.trans Tryz.func133 (congrArg some (by kernel_rfl)),f297:=Eq.trans Tryz.func134 (congrArg some (by kernel_rfl)),f298:=Eq.trans Tryz.func135 (congrArg some (by kernel_rfl)),f299:=Eq.trans Tryz.func136 (congrArg some (by kernel_rfl)),f300:=Eq.trans Tryz.func138 (congrArg some (by kernel_rfl)),f301:=Eq.trans Tryz.func139 (congrArg some (by kernel_rfl)),f328:=Eq.trans Tryz.func146 (congrArg some (by kernel_rfl)),f329:=Eq.trans Tryz.func147 (congrArg some (by kernel_rfl)),f330:=Eq.trans Tryz.func148 (congrArg some (by kernel_rfl)),f331:=Eq.trans Tryz.func149 (congrArg some (by kernel_rfl)),f332:=Eq.trans Tryz.func150 (congrArg some (by kernel_rfl)),f343:=Eq.trans Tryz.func158 (congrArg some (by kernel_rfl)),t0:=Tryz.underlying0,a0:=Tryz.isAgg0,z0:=Tryz.sizeOf0,v0:=Tryz.zeroValue0,t3:=Tryz.underlying3,a3:=Tryz.isAgg3,z3:=Tryz.sizeOf3,v3:=Tryz.zeroValue3,t4:=Tryz.underlying4,a4:=Tryz.isAgg4,z4:=Tryz.sizeOf4,v4:=Tryz.zeroValue4,t5:=Tryz.underlying5,a5:=Tryz.isAgg5,z5:=Tryz.sizeOf5,v5:=Tryz.zeroValue5,t9:=Tryz.underlying9,a9:=Tryz.isAgg9,z9:=Tryz.sizeOf9,v9:=Tryz.zeroValue9,t28:=Tryz.underlying24,a28:=Tryz.isAgg24,z28:=Tryz.sizeOf24,v28:=Tryz.zeroValue24,t46:=Tryz.underlying192,a46:=Tryz.isAgg192,z46:=Tryz.sizeOf192,v46:=Tryz.zeroValue192,t51:=Tryz.underlying136,a51:=Tryz.isAgg136,z51:=Tryz.sizeOf136,v51:=Tryz.zeroValue136,t53:=Tryz.underlying207,a53:=Tryz.isAgg207,z53:=Tryz.sizeOf207,v53:=Tryz.zeroValue207,t131:=Tryz.underlying219,a131:=Tryz.isAgg219,z131:=Tryz.sizeOf219,v131:=Tryz.zeroValue219,t182:=Tryz.underlying214,a182:=Tryz.isAgg214,z182:=Tryz.sizeOf214,v182:=Tryz.zeroValue214,t183:=Tryz.underlying215,a183:=Tryz.isAgg215,z183:=Tryz.sizeOf215,v183:=Tryz.zeroValue215,t218:=Tryz.underlying225,a218:=Tryz.isAgg225,z218:=Tryz.sizeOf225,v218:=Tryz.zeroValue225,t222:=Tryz.underlying229,a222:=Tryz.isAgg229,z222:=Tryz.sizeOf229,v222:=Tryz.zeroValue229,t228:=Tryz.underlying236,a228:=Tryz.isAgg236,z228:=Tryz.sizeOf236,v228:=Tryz.zeroValue236,t229:=Tryz.underlying237,a229:=Tryz.isAgg237,z229:=Tryz.sizeOf237,v229:=Tryz.zeroValue237 }
end Go.Proofs.YthcbcdjkfefnlaaGreatDoor
namespace Go.Proofs.YthcbcdjkfefnlaaGreatDoor
open Go.Gv
open Go.RowKit
open Iv
namespace Iv
def srt (xs:List Nat):List Nat:=xs.mergeSort fun x y=>decide (x≤y)
theorem Zli (xs:List Nat):(srt xs).length=xs.length:=(List.mergeSort_perm _ _).length_eq
theorem Zb2 (xs:List Nat):(srt xs).Perm xs:=List.mergeSort_perm _ _
theorem Zc3 (xs:List Nat):(srt xs).Pairwise (·≤·):=by
 have h:=List.pairwise_mergeSort (le:=fun x y:Nat=>decide (x≤y)) (fun a b c h1 h2=>decide_eq_true (Nat.le_trans (of_decide_eq_true h1) (of_decide_eq_true h2))) (fun a b=>by rcases Nat.le_total a b with h | h <;> simp [h]) xs
 exact h.imp fun h=>of_decide_eq_true h
theorem Zm8 {xs ys:List Nat} (h:xs.Perm ys):srt xs=srt ys :=
  List.Perm.eq_of_pairwise (le:=(·≤·)) (fun a b _ _ h1 h2=>Nat.le_antisymm h1 h2) (Zc3 xs) (Zc3 ys) ((Zb2 xs).trans (h.trans (Zb2 ys).symm))
theorem sortNatI (xs:List Nat):(xs.map fun n:Nat=>(n:Int)).mergeSort (fun x y=>decide (x≤y))=(xs.mergeSort fun x y=>decide (x≤y)).map fun n:Nat=>(n:Int):=by
 refine (List.map_mergeSort fun a _ b _=>?_).symm
 rw [decide_eq_decide]; omega
theorem Zlj (xs:List Nat) (r:Option Nat) (cp:Nat) (S:List Nat) (w0:World) (hown:Own w0 S w0 [.row 3 1 r xs.length cp (xs.map natV)]) (hlen:xs.length≤1000000000) :
    Sp Tryz.prog 92 [.slice (rowA r) xs.length cp] w0 S (fun v l=>l=[.row 3 1 r xs.length cp ((srt xs).map natV)]):=by
  have h:=Zrv sortLaid (xs.map fun n:Nat=>(n:Int)) r cp S w0 (by rw [List.length_map,List.map_map]; exact hown) (by rw [List.length_map]; exact hlen)
  rw [List.length_map,sortNatI,List.map_map] at h
  exact h
def Zbd (ds:List (ME He)):List Nat:=ds.map fun y=>y.v.en.key
def keysP (P:List En):List Nat:=srt (P.map En.key)
theorem Zo8 (ds:List (ME He)) (y:ME He):Zbd (ds++[y])=Zbd ds++[y.v.en.key]:=by simp [Zbd]
theorem Zjw (ds:List (ME He)):(Zbd ds).length=ds.length:=by simp [Zbd]
theorem keys_perm {m ds:List (ME He)} (h:m.Perm ds):srt (Zbd ds)=keysP (plain m):=by
 unfold keysP plain
 rw [List.map_map]
 exact Zm8 (List.Perm.map (fun y:ME He=>y.v.en.key) h.symm)
theorem keysP_len (P:List En):(keysP P).length=P.length:=by rw [keysP,Zli,List.length_map]
theorem Zgo {α:Type}:∀ {l1 l2:List α},l1.Nodup→(∀ x∈l1,x∈l2)→l1.length≤l2.length
  | [],_,_,_=>Nat.zero_le _
  | x::l1,l2,hn,h=>by
    obtain ⟨a,b,rfl⟩:=List.append_of_mem (h x List.mem_cons_self)
    rw [List.nodup_cons] at hn
    have h1:=Zgo (l1:=l1) (l2:=a++b) hn.2 fun y hy=>by
      have:=h y (List.mem_cons_of_mem _ hy)
      rcases List.mem_append.1 this with h' | h'
      · exact List.mem_append_left _ h'
      · rcases List.mem_cons.1 h' with rfl | h'
        · exact absurd hy hn.1
        · exact List.mem_append_right _ h'
    simp only [List.length_append,List.length_cons] at h1 ⊢
    omega
theorem Zm9 {m ds:List (ME He)} {nb:Nat} (hm:MOk m nb) (hn:(ds.map ME.born).Nodup) (hs:∀ y∈ds,y∈m) {y:ME He} (hy:y∈m) (hyd:y ∉ ds):((ds++[y]).map ME.born).Nodup∧(∀ z∈ds++[y],z∈m)∧ds.length<m.length:=by
 have h2:∀ z∈ds++[y],z∈m:=fun z hz=>by
  rcases List.mem_append.1 hz with h | h
  ·exact hs z h
  ·rw [List.mem_singleton.1 h]; exact hy
 have h1:((ds++[y]).map ME.born).Nodup:=by
  rw [List.map_append,List.nodup_append]
  refine ⟨hn,by simp,fun a ha b hb e=>?_⟩
  simp at hb; subst hb; subst e
  obtain ⟨z,hz,e⟩:=List.mem_map.1 ha
  exact hyd (JS hm.borns (hs z hz) hy e ▸ hz)
 refine ⟨h1,h2,?_⟩
 have:=Zgo (Ve h1) h2
 simp at this
 omega
section
variable {dm:List Deferred} {P:Program} {n:Nat} {Q:Exit→Act→World→Prop} {K:Act→World→Prop} {e:Env} {w0:World} {S:List Nat} {l:List HL} {d:Nat} {ty:TypeId} {pos:String} {aft:Array Edge} {gd:Option (Nat × Bool)}
theorem Zo9 {t t2 E:TypeId} {z:Value} {bytes dLen dCap size:Nat} {x y:Operand} {ad:Addr} (hu:P.underlying t=some (.slice E)) (ht:TyF P E z size bytes) (hd:Nat.ble n d=false)
    (hx:e.ev x=some (.slice (some ad) dLen dCap)) (hy:e.ev y=some (.slice none 0 0)) (k:GK dm n K ((d,.int .i64 0)::e) w0 S l) :
    GK dm n (fun a w=>Oper.wp P ⟨some d,.call { callee:=.builtin .copy,args:=#[x,y],argTypes:=#[t,t2] },ty,pos,aft,gd⟩ a w K Q) e w0 S l:=fun a w hs ho=>by
  obtain ⟨ii,hi1,hi2,hi3,hi4⟩:=ht.ex
  have hr:=run_copy_nil (P:=P) w t t2 ty E ad dLen dCap hu (by rw [hi1]; rfl)
  have hr2:(execOp a.eval ⟨some d,.call { callee:=.builtin .copy,args:=#[x,y],argTypes:=#[t,t2] },ty,pos,aft,gd⟩).run P w=.ok (.value (.int .i64 0)) w:=by
    simp [execOp,resolve,invoke,builtin,hs.ev hx,hs.ev hy,hr,goInt]
  exact XD hr2 (k _ _ (hs.put (Xx hd) _) ho)
end
theorem pk3_nil (b:List Nat):pk3 [] b=b:=by unfold pk3; simp
end Iv
theorem pack_nil (key num:Nat) (hk:key<65536) (hnum:num<4294967296) (w0:World):Sp Tryz.prog 190 [.agg #[natV key,.int .u32 (num:Int),.slice none 0 0]] w0 [] (fun v L=>∃ rr cr:Nat,v=.slice (some ⟨rr,0,none⟩) 24 24∧L=[.row 5 1 (some rr) 24 cr ((packP key num []).map u8V)]):=by
 refine ZC Tryz.func190 rfl Tryz.ntmps190 rfl (Own.refl _) ?_
 simp only [ZV]
 refine Zb<|Za<|Zt (Z6 rfl rfl rfl (fun b1=>?_))
 refine gas rfl rfl<|gA<|Zb<|Za<|Zt (ZQ (sz:=1) rfl rfl (fun _=>J7 _) rfl rfl (fun b5=>?_))
 refine Zt (ZJ rfl (vf:=[]) (vc:=[]) rfl rfl Tryz.call76 (fun w2 ho=>J8 255 24 (rowA (some b5)) 1 w2 (ho.rowSl 0 rfl) (by omega)) ?_)
 rintro _ _ ⟨rr,cr,rfl,rfl⟩
 refine gas rfl rfl<|gA<|Zb<|ZO [1,2] false 19 rfl<|Zc 0 rfl rfl ⟨[1,2],by decide,rfl⟩ (Zf (Zo rfl)) ?_
 refine Zc 1 rfl rfl ⟨[1,2],by decide,rfl⟩ (Zf (Zo rfl)) ?_
 refine Zc 2 rfl rfl ⟨[1,2],by decide,rfl⟩ (Zf (Zo rfl)) ?_
 refine Zc 3 rfl rfl ⟨[1,2],by decide,rfl⟩ (Zf (Zd rfl (XG _))) ?_
 refine Zc 4 rfl rfl ⟨[1,2],by decide,rfl⟩ (Zf (Zi Tryz.underlying3 rfl rfl (by exact Zp 1 rfl rfl))) ?_
 refine Zc 5 rfl rfl ⟨[1,2],by decide,rfl⟩ (Zf (rd_shr (b:=8) rfl rfl (by omega))) ?_
 refine Zc 6 rfl rfl ⟨[1,2],by decide,rfl⟩ (Zf (Xb Tryz.runUnderlying3 Tryz.runUnderlying5 rfl (W6 _))) ?_
 refine Zc 7 rfl rfl ⟨[1,2],by decide,rfl⟩ (Zf (Zd rfl (XG _))) ?_
 refine Zc 8 rfl rfl ⟨[1,2],by decide,rfl⟩ (Zf (Zi Tryz.underlying3 rfl rfl (by exact Zp 1 rfl rfl))) ?_
 refine Zc 9 rfl rfl ⟨[1,2],by decide,rfl⟩ (Zf (Xb Tryz.runUnderlying3 Tryz.runUnderlying5 rfl (W6 _))) ?_
 refine Zc 10 rfl rfl ⟨[1,2],by decide,rfl⟩ (Zf (Zd rfl (Zbs _))) ?_
 refine Zc 11 rfl rfl ⟨[1,2],by decide,rfl⟩ (Zf (Zi Tryz.underlying65 rfl rfl (by exact Zp 1 rfl rfl))) ?_
 refine Zc 12 rfl rfl ⟨[1,2],by decide,rfl⟩ (Zf (ZA Tryz.underlying65 rfl)) ?_
 refine Zc 13 rfl rfl ⟨[1,2],by decide,rfl⟩ (Zf (Xb Tryz.runUnderlying3 Tryz.runUnderlying5 rfl (W6 _))) ?_
 refine Zc 14 rfl rfl ⟨[1,2],by decide,rfl⟩ (Zf (XT Tryz.underlying65 YJ rfl rfl (by omega) (by omega))) ?_
 refine ZK 15 rfl (.inr ⟨[1,2],by decide,rfl⟩) (YB 0 YJ rfl rfl rfl rfl (by simp) (JK (List.replicate 24 255) 0 _) (by rfl) ?_)
 refine Zc 16 rfl rfl ⟨[1,2],by decide,rfl⟩ (Zf (XT Tryz.underlying65 YJ rfl rfl (by omega) (by omega))) ?_
 refine ZK 17 rfl (.inr ⟨[1,2],by decide,rfl⟩) (YB 0 YJ rfl rfl rfl rfl (by simp) (JK _ 1 _) (by rfl) ?_)
 refine Zc 18 rfl rfl ⟨[1,2],by decide,rfl⟩ (Zf (XT Tryz.underlying65 YJ rfl rfl (by omega) (by omega))) ?_
 refine ZK 19 rfl (.inr ⟨[1,2],by decide,rfl⟩) (YB 0 YJ rfl rfl rfl rfl (by simp) (JK _ 2 _) (by rfl) ?_)
 refine ZP (.inl (by kernel_rfl)) ?_
 refine Ze<|Zb<|Zb<|Za<|gm rfl rfl<|gA<|ZB<|ZZ (ι:=Nat) [(1,_),(3,_)] [_,_] (fun j=>j≤4) (fun j Fr0=>((24,natV j)::Fr0)) (fun j Fr0=>(.row 5 1 (some rr) 24 cr ((pk2 num (pk1 key 0) j).map u8V)::Fr0)) (fun j=>4 - j) 0 (Nat.zero_le _) ⟨rfl,rfl,rfl,trivial⟩ ⟨[0,1,2],by decide,rfl⟩ ?_
 rintro j hj
 have hj24:(pk2 num (pk1 key 0) j).length=24:=by rw [JM,Zaz]
 refine Zb<|Za<|gr rfl (ZX rfl rfl) (Zw (fun h25=>?_) (fun h25=>?_))
 ·refine gA<|Zb<|Zk rfl<|Zv<|Ze<|Zb<|ZB<|Zb<|Za<|gm rfl rfl<|gas rfl rfl<|gA<|Za<|gm rfl rfl<|gm rfl rfl<|gr rfl (by exact ZL (a:=3) rfl rfl (by omega)) ?_
  refine gr rfl (Zd rfl (Wf _))<|gr rfl (Zi Tryz.underlying136 rfl rfl (by exact Zp 2 rfl rfl)) ?_
  refine gm rfl rfl<|gr rfl (by exact XX (a:=8) rfl rfl (by omega)) ?_
  refine gr rfl (by exact Jz (a:=24) rfl rfl (by omega) (by omega)) ?_
  refine gr rfl (Zl0 (b:=24 - 8 * j) rfl rfl hnum (by omega)) ?_
  refine gr rfl (Xb Tryz.runUnderlying136 Tryz.runUnderlying5 rfl (W6 _))<|gr rfl (XT Tryz.underlying65 YJ rfl rfl (by omega) (by omega)) ?_
  refine Zt (YB 0 YJ rfl rfl rfl rfl (by simp; omega) (JK _ (3+j) _) (by rfl) ?_)
  refine ZM<|ZI<|Ze ?_
  rw [← Zbz]
  refine Za<|gr rfl (by exact ZL (b:=1) rfl rfl (by omega)) ?_
  refine gm rfl rfl<|ZM<|Ze ?_
  exact ZR (j+1) ⟨by omega,by omega⟩ ⟨rfl,rfl,rfl,trivial⟩ ⟨[0,1,2],by decide,rfl⟩
 refine gA<|Zb<|Zl rfl<|Z1<|Zs<|Zs<|ZE<|Ze<|Zb ?_
 obtain rfl:j=4:=by omega
 have hp3:=hj24
 have hp3b:=Zld num (Zo4 key 0 hk) 4
 have hzz:=Zby ((pk2 num (pk1 key 0) 4).take 23)
 rw [List.length_take,hp3] at hzz
 refine ZO [1,2] true 4 rfl<|Zc 0 rfl rfl ⟨[1,2],by decide,rfl⟩ (Zf (Zo rfl)) ?_
 refine Zc 1 rfl rfl ⟨[1,2],by decide,rfl⟩ (Zf (Zaq Tryz.underlying65 YJ rfl rfl (by omega) (by omega))) ?_
 refine Zc 2 rfl rfl ⟨[1,2],by decide,rfl⟩ (Zf (Zd rfl (Zbs _))) ?_
 refine Zc 3 rfl rfl ⟨[1,2],by decide,rfl⟩ (Zf (Zi Tryz.underlying65 rfl rfl (by exact Zp 1 rfl rfl))) ?_
 rw [show Zcq (some ⟨rr,0,none⟩) 24 (Int.toNat 7) 1=some ⟨rr,7,none⟩ from Zbv (by decide)]
 refine ZK 4 rfl (.inr ⟨[1,2],by decide,rfl⟩) (Zo9 Tryz.underlying65 YJ rfl rfl rfl ?_)
 refine ZP (.inr ⟨[1,2],by decide,rfl⟩) ?_
 refine Ze<|Zb<|Za<|gm rfl rfl<|gm rfl rfl<|gr rfl (Jg Tryz.underlying65 YJ rfl rfl (by omega) (by omega)) ?_
 refine Zt (ZJ rfl (vf:=[]) (vc:=[]) rfl rfl Tryz.call124 (fun w1 ho=>Zlc (pk2 num (pk1 key 0) 4) hp3b hp3 (some ⟨rr,0,none⟩) 24 w1 (ho.rowSl 0 rfl)) ?_)
 rintro _ _ ⟨rfl,rfl⟩
 refine gr rfl (Xb Tryz.runUnderlying3 Tryz.runUnderlying5 rfl (JC (by omega))) ?_
 refine gr rfl (XT Tryz.underlying65 YJ rfl rfl (by omega) (by omega)) ?_
 refine Zt (YB 0 YJ rfl rfl rfl rfl (by rw [List.length_map,hp3]; decide) (JK _ 23 _) (by rfl) ?_)
 refine gA<|Zb<|Za<|gm rfl rfl<|gas rfl rfl<|gA<|Zu<|Zy (.inl rfl) Tryz.results190 rfl [0] (by decide) ?_
 refine ⟨rr,cr,rfl,?_⟩
 unfold packP
 rw [pk3_nil]
 rfl
theorem Vp (x:He) (hx:EnOk x.en) (num:Nat) (hnum:num<4294967296) (w0:World) (hsl:OldSl w0 [] (rowA x.r) x.en.val.length 1 (x.en.val.map u8V)) (hnil:x.r=none→x.c=0):Sp Tryz.prog 190 [.agg #[natV x.en.key,.int .u32 (num:Int),.slice (rowA x.r) x.en.val.length x.c]] w0 [] (fun v L=>∃ rr cr:Nat,v=.slice (some ⟨rr,0,none⟩) 24 24∧L=[.row 5 1 (some rr) 24 cr ((packP x.en.key num x.en.val).map u8V)]):=by
 obtain ⟨⟨key,n0,vs,bk,sl⟩,r,c⟩:=x
 have hk:=hx.key
 simp only at hk hsl hnil ⊢
 cases r with
 | some g=>exact pack_ok key num (by omega) hnum vs hx.val hx.len ⟨g,0,none⟩ c w0 hsl
 | none =>
  have hl:vs.length=0:=by
   rcases Nat.eq_zero_or_pos vs.length with h | h
   ·exact h
   ·have:=hsl.isSome h; cases this
  obtain rfl:=List.eq_nil_of_length_eq_zero hl
  obtain rfl:=hnil rfl
  exact pack_nil key num (by omega) hnum w0
theorem V6 {w0 w:World} {S:List Nat} {l:List HL} (ho:Own w0 S w l) {x:He} (h:x.row∈l):x.r=none→x.c=0:=fun e=>by
 have hh:=ho.holds _ h
 unfold He.row at hh
 rw [e] at hh
 exact hh.2.2
theorem Zqh (f:Fl) (hf:f.Ok) (bs bf:Nat) (rb:Option Nat) (cb:Nat) (rp:Option Nat) (cp:Nat) (id bm num:Nat) (free:Int) (m:List (ME He)) (nb:Nat) (T:List HL) (hms:MSt m nb T) (S:List Nat) (w0:World) (hown:Own w0 S w0 (.blk bs [.bool true,.pointer (some ⟨bf,0,none⟩),natV id,.map (some bm),.int .u32 ((num:Nat):Int),.int .i64 free] 138 :: .obj bm (X0 HV m nb)::FlH bf rb cb rp cp f)) (hml:m.length≤1000000):Sp Tryz.prog 185 [.pointer (some ⟨bs,0,none⟩)] w0 S (fun v L=>∃ (r:Option Nat) (c:Nat),v=.slice (rowA r) (keysP (plain m)).length c∧L=(.blk bs [.bool true,.pointer (some ⟨bf,0,none⟩),natV id,.map (some bm),.int .u32 ((num:Nat):Int),.int .i64 free] 138 :: .obj bm (X0 HV m nb)::FlH bf rb cb rp cp f)++[.row 3 1 r (keysP (plain m)).length c ((keysP (plain m)).map natV)]):=by
 refine ZC Tryz.func185 rfl Tryz.ntmps185 rfl hown ?_
 simp only [ZV]
 refine Zb<|Za<|gas rfl rfl<|gA<|Zb<|Za<|gas rfl rfl<|gA<|Zb<|Zb<|Za<|gm rfl rfl<|gnc rfl rfl<|gr rfl (Zd rfl (YG _))<|gr rfl (Zi Tryz.underlying135 rfl rfl (by exact Zp 0 rfl rfl)) ?_
 refine Zt (Zl3 1 HV rfl Tryz.underlying135 rfl rfl (fun r9=>?_))
 refine gA<|ZB<|YH 3 1<|ZZ (ι:=List (ME He) × Option Nat × Nat) [(9,_)] [_,_,_,_,_] (fun j=>(j.1.map ME.born).Nodup∧∀ y∈j.1,y∈m) (fun j Fr0=>((3,.slice (rowA j.2.1) (Zbd j.1).length j.2.2)::Fr0)) (fun j Fr0=>(.obj r9 (Zba bm nb j.1) :: .row 3 1 j.2.1 (Zbd j.1).length j.2.2 ((Zbd j.1).map natV)::Fr0)) (fun j=>m.length - j.1.length) ([],none,0) (⟨List.nodup_nil,fun _ h=>by cases h⟩) ⟨rfl,rfl,trivial⟩ ⟨[1,0,2,3,4,5,6],by decide,rfl⟩ ?_
 rintro ⟨ds,rk,ck⟩ ⟨hnd,hsub⟩
 simp only at hnd hsub ⊢
 have hdl:ds.length≤m.length:=Zgo (Ve hnd) hsub
 have hdk:=Zjw ds
 refine Zb<|Za<|Zt (Zp2 3 0 HV rfl hms.ok hnd hsub rfl rfl rfl (fun hperm=>?_) (fun y hy hyd=>?_))
 ·refine gr rfl (ZD rfl rfl)<|gA<|Zb<|Zl rfl<|Z1<|Zs<|Zs<|ZE<|Ze<|Zb<|Za<|gm rfl rfl<|Zt (Yi [1] [0,2,3,4,5,6] rfl (vf:=[]) (vc:=[]) rfl rfl Tryz.call92 (by decide) rfl (fun w how hc=>Zlj (Zbd ds) rk ck _ w hc (by omega)) ?_)
  rintro _ _ rfl
  rw [keys_perm hperm,show (Zbd ds).length=(keysP (plain m)).length by rw [keysP_len,List.length_map,Zjw,hperm.length_eq]]
  refine gA<|Zb<|Za<|gm rfl rfl<|gas rfl rfl<|gA<|Zu<|Zy (.inl rfl) Tryz.results185 rfl [2,3,4,5,6,0] (by decide) ?_
  exact ⟨rk,ck,rfl,rfl⟩
 refine gr rfl (ZD rfl rfl)<|gA<|Zb<|Zk rfl<|Zv<|Ze<|ZB<|Zb<|Za<|gr rfl (Zl5 3 0 HV hms.ok hy rfl rfl rfl)<|gr rfl (ZD rfl rfl) ?_
 rw [hms.key y hy]
 refine gas rfl rfl<|gA<|Za<|gm rfl rfl<|gm rfl rfl<|Zt (ZQ (sz:=1) rfl rfl (fun _=>YK _) rfl rfl (fun b16=>?_))
 refine Zt (Yb 2 0 Tryz.underlying24 Y7 rfl (by decide) rfl rfl rfl rfl rfl (by simp [Value.oneCell']) (by omega) (by omega) (fun _=>(by rfl)) (fun r17 c17=>?_))
 refine gas rfl rfl<|ZM<|ZI<|Ze ?_
 obtain ⟨hn1,hn2,hn3⟩:=Zm9 hms.ok hnd hsub hy hyd
 rw [snocN,snoc_len (Zbd ds) y.v.en.key,← Zo8]
 exact ZR ((ds++[y],r17,c17)) ⟨⟨hn1,hn2⟩,by simp; omega⟩ ⟨rfl,rfl,trivial⟩ ⟨[1,2,3,4,5,6,7],by decide,rfl⟩
theorem XU (cs:List Value) (bs bf bm id num:Nat) (free e:Int) (S:List Nat) (w0:World) (hown:Own w0 S w0 [.blk bs [.bool true,.pointer (some ⟨bf,0,none⟩),natV id,.map (some bm),.int .u32 ((num:Nat):Int),.int .i64 free] 138]):Sp Tryz.prog 188 [.pointer (some ⟨bs,0,none⟩),.int .i64 e] w0 S (fun v L=>v=.int .i64 e∧L=[.blk bs [.bool true,.pointer (some ⟨bf,0,none⟩),natV (if e=9 then 0 else id),.map (some bm),.int .u32 ((num:Nat):Int),.int .i64 free] 138]):=by
 refine ZC Tryz.func188 rfl Tryz.ntmps188 rfl hown ?_
 simp only [ZV]
 refine Zb<|Za<|gas rfl rfl<|gA<|Zb<|Zb<|Za<|gm rfl rfl<|gr rfl (Z8 rfl rfl) (Zw (fun h6=>?_) (fun h6=>?_))
 ·refine gA<|Zk rfl<|Za<|gm rfl rfl<|gnc rfl rfl<|gr rfl (Zd rfl (Zmj _))<|Zt (Yc 0 Y7 rfl rfl rfl rfl rfl (by rfl) (by rfl) ?_)
  refine gA<|Zb<|Za<|gm rfl rfl<|gas rfl rfl<|gA<|Zu<|Zy (.inl rfl) Tryz.results188 rfl [0] (by decide) ?_
  rw [if_pos h6]
  exact ⟨rfl,rfl⟩
 refine gA<|Zl rfl<|Zv<|Ze<|Zb<|Za<|gm rfl rfl<|gas rfl rfl<|gA<|Zu<|Zy (.inl rfl) Tryz.results188 rfl [0] (by decide) ?_
 rw [if_neg h6]
 exact ⟨rfl,rfl⟩
namespace Iv
def X5 (P:List En) (k:Nat):Nat:=P.countP fun x=>decide (x.bk=k)
def cntL (P:List En) (n:Nat):List Nat:=(List.range n).map (X5 P)
theorem cntL_len (P:List En) (n:Nat):(cntL P n).length=n:=by simp [cntL]
theorem cntL_nil (n:Nat):cntL [] n=List.replicate n 0:=by
 apply List.ext_getElem
 ·simp [cntL]
 ·intro i h1 h2; simp [cntL,X5]
theorem Zgp {P:List En} {n k:Nat} (h:k<n):((cntL P n).map natV)[k]? = some (natV (X5 P k)):=by simp [cntL,h]
theorem cnt_snoc (P:List En) (y:En) (n:Nat) (h:y.bk<n):(cntL P n).set y.bk (X5 P y.bk+1)=cntL (P++[y]) n:=by
 apply List.ext_getElem
 ·simp [cntL]
 ·intro i h1 h2
  rw [List.getElem_set]
  simp only [cntL,List.getElem_map,List.getElem_range,X5,List.countP_append,List.countP_singleton]
  by_cases e:y.bk=i
  ·rw [if_pos e,e]; simp
  ·rw [if_neg e]; simp [e]
theorem cnt_le (P:List En) (k:Nat):X5 P k≤P.length:=List.countP_le_length
theorem cnt_perm {P Q:List En} (h:P.Perm Q) (k:Nat):X5 P k=X5 Q k:=h.countP_eq _
theorem plain_perm {m ds:List (ME He)} (h:m.Perm ds):(plain m).Perm (plain ds):=List.Perm.map (fun x:ME He=>x.v.en) h
def JX (fb v:Nat) (s:(Fl × List En) × Nat × Int) (k:Nat):(Fl × List En) × Nat × Int :=
  if s.2.2≠0 then s else match YY k s.1.2 with
  | none=>s
  | some x=>if x.bk≠v then s else
    if (Ya s.1.1 (fb * 256+s.2.1 * 24) (packP x.key x.num x.val)).2≠0 then (((Ya s.1.1 (fb * 256+s.2.1 * 24) (packP x.key x.num x.val)).1,s.1.2),s.2.1,(Ya s.1.1 (fb * 256+s.2.1 * 24) (packP x.key x.num x.val)).2)
    else (((Ya s.1.1 (fb * 256+s.2.1 * 24) (packP x.key x.num x.val)).1,Za3 ⟨x.key,x.num,x.val,fb,s.2.1⟩ s.1.2),s.2.1+1,0)
def Zad (fb v:Nat) (ks:List Nat) (f:Fl) (P:List En) (i:Nat):(Fl × List En) × Nat × Int:=(ks.take i).foldl (JX fb v) ((f,P),0,0)
theorem Zgq {fb v:Nat} {ks:List Nat} {f:Fl} {P:List En} {i k:Nat} (h:ks[i]? = some k):Zad fb v ks f P (i+1)=JX fb v (Zad fb v ks f P i) k:=by
 unfold Zad
 rw [take_at h,List.foldl_append]; rfl
theorem Zna {fb v:Nat}:∀ (l:List Nat) {s:(Fl × List En) × Nat × Int},s.2.2≠0→l.foldl (JX fb v) s=s
  | [],_,_=>rfl
  | k::l,s,h=>by
    rw [List.foldl_cons,show JX fb v s k=s by unfold JX; rw [if_pos h]]
    exact Zna l h
theorem mv_stay {fb v:Nat} {ks:List Nat} {f:Fl} {P:List En} {i:Nat} (h:(Zad fb v ks f P i).2.2≠0):Zad fb v ks f P ks.length=Zad fb v ks f P i:=by
 have e:ks.take ks.length=ks.take i++(ks.drop i):=by rw [List.take_length,List.take_append_drop]
 unfold Zad at h ⊢
 rw [e,List.foldl_append]
 exact Zna _ h
def Zh0 (f:Fl) (P:List En) (fb:Nat) (e:Int) (f':Fl) (P':List En) (fb':Nat):Prop :=
  ∃ v,v<f.b.length / 256∧v≠fb∧(∀ i,i<f.b.length / 256→i≠fb→X5 P v≤X5 P i) ∧
   ((10≤X5 P v∧e=6∧f'=f∧P'=P∧fb'=fb) ∨
    (X5 P v<10∧(((Zad fb v (keysP P) f P (keysP P).length).2.2≠0∧e=(Zad fb v (keysP P) f P (keysP P).length).2.2∧f'=(Zad fb v (keysP P) f P (keysP P).length).1.1∧P'=(Zad fb v (keysP P) f P (keysP P).length).1.2∧fb'=fb) ∨
      ((Zad fb v (keysP P) f P (keysP P).length).2.2=0∧f'=(Yy (Zad fb v (keysP P) f P (keysP P).length).1.1 (v:Int)).1∧e=(Yy (Zad fb v (keysP P) f P (keysP P).length).1.1 (v:Int)).2∧P'=(Zad fb v (keysP P) f P (keysP P).length).1.2∧fb'=if e≠0 then fb else v))))
theorem Zae {x:En}:∀ {P:List En},(YY x.key P).isSome=true→(Za3 x P).map En.key=P.map En.key
  | [],h=>by cases h
  | y::l,h=>by
    unfold YY at h
    unfold Za3
    by_cases e:x.key=y.key
    · rw [if_pos e]; simp [e]
    · rw [if_neg e] at h ⊢
      simp [Zae h]
theorem Zd9 {k:Nat}:∀ {P:List En},k∈P.map En.key→(YY k P).isSome=true
  | [],h=>by cases h
  | y::l,h=>by
    unfold YY
    by_cases e:k=y.key
    · rw [if_pos e]; rfl
    · rw [if_neg e]
      rcases List.mem_cons.1 h with h | h
      · exact absurd h e
      · exact Zd9 h
theorem Zlk {x z:En} {v:Nat} (hxv:x.bk=v) (hz:z.bk≠v):∀ {P:List En},YY z.key P=some x→X5 (Za3 z P) v+1=X5 P v
  | [],h=>by cases h
  | y::l,h=>by
    unfold YY at h
    unfold Za3
    by_cases e:z.key=y.key
    · rw [if_pos e] at h ⊢
      cases h
      simp [X5,List.countP_cons,hxv,hz]
    · rw [if_neg e] at h ⊢
      have:=Zlk hxv hz h
      simp only [X5,List.countP_cons] at this ⊢
      omega
theorem Zpa (f:Fl):(flFails f).er=f.er:=(Zc2 f).2.2
theorem prog_er2 (g:Fl) (a:Int) (u:Nat):(YO g a u).1.er=g.er:=by
 unfold YO
 split
 ·rfl
 ·unfold Wq
  split <;> exact Zpa { g with pr:=g.pr+1 }
theorem wr_er (f:Fl) (o:Nat) (bs:List Nat):∀ k,(XW f o bs k).1.er=f.er
  | 0=>rfl
  | k+1=>by
    have ih:=wr_er f o bs k
    rw [Za2]
    unfold Za1
    split
    · exact ih
    · split
      · exact ih
      · rw [prog_er2]; exact ih
theorem has_key {m:List (ME He)} {nb:Nat} {T:List HL} (h:MSt m nb T) {k:Nat} (hk:k∈(plain m).map En.key):∃ x,Wz (k:Int) m=some x:=by
 have h1:=Zd9 hk
 rw [Zle k h.key,Option.isSome_map] at h1
 exact Option.isSome_iff_exists.1 h1
theorem keysP_mem {P:List En} {k:Nat} (h:k∈keysP P):k∈P.map En.key:=(Zb2 _).mem_iff.1 h
theorem Xr {xs:List Nat} {i k:Nat} (h:xs[i]? = some k):(xs.map natV)[i]? = some (natV k):=by rw [List.getElem?_map,h]; rfl
end Iv
theorem Znb (f:Fl) (hf:f.Ok) (bs bf:Nat) (rb:Option Nat) (cb:Nat) (rp:Option Nat) (cp:Nat) (id bm num:Nat) (fb:Nat) (m:List (ME He)) (nb:Nat) (T:List HL) (hms:MSt m nb T) (S:List Nat) (w0:World) (hown:Own w0 S w0 (.blk bs [.bool true,.pointer (some ⟨bf,0,none⟩),natV id,.map (some bm),.int .u32 ((num:Nat):Int),.int .i64 ((fb:Nat):Int)] 138 :: .obj bm (X0 HV m nb)::(FlH bf rb cb rp cp f++T))) (hml:m.length≤1000000) (hfb:fb<f.b.length / 256) (hbn:∀ x∈m,x.v.en.bk<f.b.length / 256) (hpr:f.pr+24 * m.length+24<4611686018427387904) (her:f.er+1<4611686018427387904):Sp Tryz.prog 187 [.pointer (some ⟨bs,0,none⟩)] w0 S (fun v L=>∃ (e:Int) (f2:Fl) (m2:List (ME He)) (nb2 fb2:Nat),v=.int .i64 e∧Zh0 f (plain m) fb e f2 (plain m2) fb2∧MSt m2 nb2 T∧f2.Ok∧f2.b.length=f.b.length∧f2.pr≤f.pr+24 * m.length∧L=(.blk bs [.bool true,.pointer (some ⟨bf,0,none⟩),natV id,.map (some bm),.int .u32 ((num:Nat):Int),.int .i64 ((fb2:Nat):Int)] 138 :: .obj bm (X0 HV m2 nb2)::(FlH bf rb cb rp cp f2++T))):=by
 have hbl:=hf.hi
 have hbl0:=hf.lo
 have hblm:=hf.len
 refine ZC Tryz.func187 rfl Tryz.ntmps187 rfl hown ?_
 simp only [ZV]
 refine Zb<|Za<|gas rfl rfl<|gA<|Zb<|Za<|gm rfl rfl<|gnc rfl rfl<|gr rfl (Zd rfl (X3 _))<|gr rfl (Zi Tryz.underlying32 rfl rfl (by exact Zp 0 rfl rfl)) ?_
 refine Zt (ZJ rfl (vf:=[]) (vc:=[]) rfl rfl Tryz.call41 (fun w1 ho=>Zaa f hf bf rb cb rp cp w1 (ho.blkCells 2 rfl)) ?_)
 rintro _ _ ⟨rfl,rfl⟩
 refine Zt (Zal (f.b.length / 256) Tryz.underlying24 Y7 rfl rfl rfl (by omega) (by omega) (by omega) (by omega) (fun b20=>?_))
 refine gas rfl rfl<|gA<|Zb<|Zb ?_
 rw [Zgz _ rfl,show List.replicate (f.b.length / 256) (Value.int .i64 0)=(cntL (plain []) (f.b.length / 256)).map natV by rw [show plain []=[] from rfl,cntL_nil]; simp]
 refine Za<|gm rfl rfl<|gnc rfl rfl<|gr rfl (Zd rfl (YG _))<|gr rfl (Zi Tryz.underlying135 rfl rfl (by exact Zp 1 rfl rfl)) ?_
 refine Zt (Zl3 2 HV rfl Tryz.underlying135 rfl rfl (fun r25=>?_))
 refine gA<|ZB<|ZZ (ι:=List (ME He)) [(0,_),(3,_),(25,_)] (_::_::_::_::_::T) (fun ds=>(ds.map ME.born).Nodup∧∀ y∈ds,y∈m) (fun ds Fr0=>Fr0) (fun ds Fr0=>(.obj r25 (Zba bm nb ds) :: .row 3 1 (some b20) (f.b.length / 256) (f.b.length / 256) ((cntL (plain ds) (f.b.length / 256)).map natV)::Fr0)) (fun ds=>m.length - ds.length) [] (⟨List.nodup_nil,fun _ h=>by cases h⟩) ⟨rfl,rfl,rfl,trivial⟩ (YL 0 rfl) ?_
 rintro ds ⟨hnd,hsub⟩
 have hdl:ds.length≤m.length:=Zgo (Ve hnd) hsub
 refine Zb<|Za<|Zt (Zp2 3 0 HV rfl hms.ok hnd hsub rfl rfl rfl (fun hperm=>?_) (fun y hy hyd=>?_))
 ·refine gr rfl (ZD rfl rfl)<|gA<|Zb<|Zl rfl<|Z1<|Zs<|Zs<|ZE<|Ze<|Zb ?_
  rw [show cntL (plain ds) (f.b.length / 256)=cntL (plain m) (f.b.length / 256) by unfold cntL; congr 1; funext k; exact (cnt_perm (plain_perm hperm) k).symm]
  refine Za<|gas rfl rfl<|gA<|Zb<|Zb<|Za<|gm rfl rfl<|gr rfl (ZA Tryz.underlying24 rfl)<|gm rfl rfl<|gA<|ZB<|ZZ (ι:=Nat × Int) [(0,_),(3,_),(38,_),(39,_)] (_::_::_::_::_::_::_::T) (fun j=>j.1≤f.b.length / 256∧((j.2 = -1∧∀ i,i<j.1→i=fb)∨∃ v:Nat,j.2=(v:Int)∧v<j.1∧v≠fb∧∀ i,i<j.1→i≠fb→X5 (plain m) v≤X5 (plain m) i)) (fun j Fr0=>((6,.int .i64 j.2)::(40,natV j.1)::Fr0)) (fun j Fr0=>Fr0) (fun j=>f.b.length / 256 - j.1) (0,-1) (⟨Nat.zero_le _,.inl ⟨rfl,fun i h=>absurd h (Nat.not_lt_zero _)⟩⟩) ⟨rfl,rfl,rfl,rfl,rfl,rfl,trivial⟩ (YL 0 rfl) ?_
  rintro ⟨k,vi⟩ ⟨hk,hvi⟩
  simp only at hk hvi ⊢
  refine Zb<|Za<|gr rfl (ZX rfl rfl) (Zw (fun h41=>?_) (fun h41=>?_))
  ·refine gA<|Zb<|Zk rfl<|Zv<|Ze<|Zb<|ZB<|Zb<|Za<|gm rfl rfl<|gr rfl (Ys 1 rfl Tryz.underlying24 Y7 rfl rfl (by omega) (by omega)) ?_
   refine gr rfl (Zi Tryz.underlying3 rfl rfl (WU 1 rfl (Zgp (P:=plain m) (show k<f.b.length / 256 by omega)))) ?_
   refine gas rfl rfl<|gas rfl rfl<|gA<|Zb<|Za<|gm rfl rfl<|gm rfl rfl<|gnc rfl rfl<|gr rfl (Zd rfl (Vk _))<|gr rfl (Zi Tryz.underlying3 rfl rfl (by exact Zp 2 rfl rfl)) ?_
   refine gr rfl (Z4 rfl rfl) (Zw (fun h50=>?_) (fun h50=>?_))
   ·refine gm rfl rfl<|Zg rfl rfl<|Zm rfl (Zo rfl)<|Zg rfl rfl (Zm rfl (ZX rfl rfl) (Zw (fun h53=>?_) (fun h53=>?_)))
    ·refine Zg rfl rfl<|Zm rfl (Zo rfl)<|Zj rfl rfl rfl<|Zj rfl rfl rfl<|Zj rfl rfl rfl<|Zj rfl rfl rfl<|Zj rfl rfl rfl<|Zj rfl rfl rfl<|Zg rfl rfl<|Zm rfl (Zq rfl rfl)<|gr rfl (Zq rfl rfl)<|gA<|Zk rfl<|Za<|gm rfl rfl<|gas rfl rfl<|ZM<|ZI<|Ze<|Za<|gr rfl (by exact ZL (b:=1) rfl rfl (by omega)) ?_
     refine gm rfl rfl<|ZM<|Ze ?_
     exact ZR ((k+1,(k:Int))) ⟨⟨by simp only; omega,by simp only; rcases hvi with ⟨h1,h2⟩ | ⟨v,h1,h2,h3,h4⟩; exact .inr ⟨k,rfl,by omega,by omega,fun i hi hne=>by rcases (show i<k∨i=k by omega) with h | h; exact absurd (h2 i h) hne; rw [h]; exact Nat.le_refl _⟩; omega⟩,by simp only; omega⟩ ⟨rfl,rfl,rfl,rfl,rfl,rfl,trivial⟩ (YL 0 rfl)
    obtain ⟨v,rfl,hv2,hv3,hv4⟩:∃ v:Nat,vi=(v:Int)∧v<k∧v≠fb∧∀ i,i<k→i≠fb→X5 (plain m) v≤X5 (plain m) i:=by
     rcases hvi with ⟨h,_⟩ | h
     ·omega
     ·exact h
    refine Zg rfl rfl<|Zm rfl (Zo rfl)<|Zg rfl rfl<|Zm rfl (Zo rfl)<|Zg rfl rfl<|Zm rfl (Zo rfl)<|Zg rfl rfl<|Zm rfl (Zo rfl)<|Zg rfl rfl (Zm rfl (Ys 1 rfl Tryz.underlying24 Y7 rfl rfl (by omega) (by omega)) ?_)
    refine Zg rfl rfl (Zm rfl (Zi Tryz.underlying3 rfl rfl (WU 1 rfl (Zgp (P:=plain m) (show v<f.b.length / 256 by omega)))) ?_)
    refine Zg rfl rfl (Zm rfl (ZX rfl rfl) (Zw (fun h60=>?_) (fun h60=>?_)))
    ·refine Zg rfl rfl<|Zm rfl (Zn rfl rfl)<|gr rfl (Zq rfl rfl)<|gA<|Zk rfl<|Za<|gm rfl rfl<|gas rfl rfl<|ZM<|ZI<|Ze<|Za<|gr rfl (by exact ZL (b:=1) rfl rfl (by omega)) ?_
     refine gm rfl rfl<|ZM<|Ze ?_
     exact ZR ((k+1,(k:Int))) ⟨⟨by simp only; omega,.inr ⟨k,rfl,by simp only; omega,by omega,fun i hi hne=>by simp only at hi; rcases (show i<k∨i=k by omega) with h | h; have:=hv4 i h hne; omega; rw [h]; exact Nat.le_refl _⟩⟩,by simp only; omega⟩ ⟨rfl,rfl,rfl,rfl,rfl,rfl,trivial⟩ (YL 0 rfl)
    refine Zg rfl rfl<|Zm rfl (Zn rfl rfl)<|gr rfl (Zq rfl rfl)<|gA<|Zl rfl<|Zv<|ZI<|Ze<|Za<|gr rfl (by exact ZL (b:=1) rfl rfl (by omega)) ?_
    refine gm rfl rfl<|ZM<|Ze ?_
    exact ZR ((k+1,(v:Int))) ⟨⟨by simp only; omega,.inr ⟨v,rfl,by simp only; omega,hv3,fun i hi hne=>by simp only at hi; rcases (show i<k∨i=k by omega) with h | h; exact hv4 i h hne; rw [h]; omega⟩⟩,by simp only; omega⟩ ⟨rfl,rfl,rfl,rfl,rfl,rfl,trivial⟩ (YL 0 rfl)
   refine gm rfl rfl<|Zj rfl rfl rfl<|Zj rfl rfl rfl<|Zj rfl rfl rfl<|Z2 rfl rfl rfl<|Z2 rfl rfl rfl<|Z2 rfl rfl rfl<|Z2 rfl rfl rfl<|Z2 rfl rfl rfl<|Z2 rfl rfl rfl<|Zj rfl rfl rfl<|gr rfl (Zn rfl rfl)<|gA<|Zl rfl<|Zv<|ZI<|Ze<|Za<|gr rfl (by exact ZL (b:=1) rfl rfl (by omega)) ?_
   refine gm rfl rfl<|ZM<|Ze ?_
   exact ZR ((k+1,vi)) ⟨⟨by simp only; omega,by simp only; rcases hvi with ⟨h1,h2⟩ | ⟨v,h1,h2,h3,h4⟩; exact .inl ⟨h1,fun i hi=>by rcases (show i<k∨i=k by omega) with h | h; exact h2 i h; omega⟩; exact .inr ⟨v,h1,by omega,h3,fun i hi hne=>by rcases (show i<k∨i=k by omega) with h | h; exact h4 i h hne; omega⟩⟩,by simp only; omega⟩ ⟨rfl,rfl,rfl,rfl,rfl,rfl,trivial⟩ (YL 0 rfl)
  refine gA<|Zb<|Zl rfl<|Z1<|Zs<|Zs<|ZE<|Ze<|Zb<|Zb ?_
  obtain ⟨v,rfl,hv2,hv3,hv4⟩:∃ v:Nat,vi=(v:Int)∧v<k∧v≠fb∧∀ i,i<k→i≠fb→X5 (plain m) v≤X5 (plain m) i:=by
   rcases hvi with ⟨_,h⟩ | h
   ·have h1:=h 0 (by omega)
    have h2:=h 1 (by omega)
    omega
   ·exact h
  have hke:k=f.b.length / 256:=by omega
  clear hvi
  refine Za<|gm rfl rfl<|gm rfl rfl<|gr rfl (Ys 1 rfl Tryz.underlying24 Y7 rfl rfl (by omega) (by omega)) ?_
  refine gr rfl (Zi Tryz.underlying3 rfl rfl (WU 1 rfl (Zgp (P:=plain m) (show v<f.b.length / 256 by omega)))) ?_
  refine gr rfl (Xs rfl rfl) (Zw (fun h69=>?_) (fun h69=>?_))
  ·refine gA<|Zk rfl<|Zb<|Za<|gas rfl rfl<|gA<|Zu<|Zh<|ZW (.inl rfl) Tryz.results187 rfl (YL 2 rfl) ?_
   exact ⟨6,f,m,nb,fb,rfl,⟨v,by omega,hv3,fun i hi hne=>hv4 i (by omega) hne,.inl ⟨by omega,rfl,rfl,rfl,rfl⟩⟩,hms,hf,rfl,Nat.le_add_right _ _,rfl⟩
  refine gA<|Zl rfl<|Zv<|Ze<|Zb<|Za<|gm rfl rfl<|gnc rfl rfl<|gr rfl (Zd rfl (Vk _))<|gr rfl (Zi Tryz.underlying3 rfl rfl (by exact Zp 2 rfl rfl)) ?_
  refine gr rfl (ZT rfl (fun _=>bd_182_0 _)) ?_
  refine Zt (ZU Yq rfl rfl (fun b9=>?_))
  refine Zt (Zz 0 Yq rfl rfl rfl rfl rfl rfl (by rfl) ?_)
  refine gA<|Zb<|Zb<|Za<|gm rfl rfl<|Zt (Yr [_,_,_,_,_,_,_,_] T [3,4,5,6,7] [0,1,2] 8 rfl rfl rfl (vf:=[]) (vc:=[]) rfl rfl Tryz.call185 (by decide) (by decide) rfl (fun w how hc=>Zqh f hf bs bf rb cb rp cp id bm num fb m nb T hms _ w hc hml) ?_)
  rintro _ _ ⟨rk,ck,rfl,rfl⟩
  refine gr rfl (ZA Tryz.underlying24 rfl)<|gm rfl rfl<|gA<|ZB<|ZZ (ι:=Nat × Nat × Fl × List (ME He) × Nat) [(0,_),(6,_),(9,_),(76,_),(77,_)] (_::_::_::_::T) (fun j=>j.1≤(keysP (plain m)).length∧Zad fb v (keysP (plain m)) f (plain m) j.1=((j.2.2.1,plain j.2.2.2.1),j.2.1,0)∧MSt j.2.2.2.1 j.2.2.2.2 T∧j.2.2.1.Ok∧j.2.2.1.b.length=f.b.length∧j.2.2.1.pr≤f.pr+24 * j.1∧j.2.2.1.er=f.er∧X5 (plain j.2.2.2.1) v+j.2.1=X5 (plain m) v∧(plain j.2.2.2.1).map En.key=(plain m).map En.key) (fun j Fr0=>((78,natV j.1)::Fr0)) (fun j Fr0=>(.blk b9 [natV fb,natV j.2.1] 182 :: .obj bm (X0 HV j.2.2.2.1 j.2.2.2.2) :: .blk bf (j.2.2.1.cells rb cb rp cp) 115 :: .row 5 1 rb j.2.2.1.b.length cb (j.2.2.1.b.map u8V) :: .row 5 1 rp j.2.2.1.picks.length cp (j.2.2.1.picks.map u8V)::Fr0)) (fun j=>(keysP (plain m)).length - j.1) (0,0,f,m,nb) (⟨Nat.zero_le _,rfl,hms,hf,rfl,Nat.le_refl _,rfl,rfl,rfl⟩) ⟨rfl,rfl,rfl,rfl,rfl,rfl,trivial⟩ (ZS (A:=[_,_,_,_,_,_,_,_,_]) (B:=[_,_,_,_,_,_,_,_,_]) (T:=T) [6,1,2,3,4,0,5,7,8] 9 (by decide) (by decide) rfl rfl) ?_
  rintro ⟨i,sl,g,m2,nb2⟩ ⟨hi,hmv,hm2,hg,hgl,hgp,hger,hcn,hkeys⟩
  simp only at hi hmv hm2 hg hgl hgp hger hcn hkeys ⊢
  have hkl:=keysP_len (plain m)
  have hpml:(plain m).length=m.length:=by simp [plain]
  have hcv:=cnt_le (plain m) v
  refine Zb<|Za<|gr rfl (ZX rfl rfl) (Zw (fun h79=>?_) (fun h79=>?_))
  ·obtain ⟨k0,hk⟩:=get_some (show i<(keysP (plain m)).length by omega)
   obtain ⟨x,hgx⟩:=has_key hm2 (show k0∈(plain m2).map En.key by rw [hkeys]; exact keysP_mem (List.mem_of_getElem? hk))
   obtain ⟨hxe,hxr,hxk,hpg⟩:=hm2.get hgx
   subst hxk
   refine gA<|Zb<|Zk rfl<|Zv<|Ze<|Zb<|ZB<|Zb<|Za<|gr rfl (Ys 6 rfl Tryz.underlying24 Y7 rfl rfl (by omega) (by omega)) ?_
   refine gr rfl (Zi Tryz.underlying3 rfl rfl (WU 6 rfl (Xr hk)))<|gas rfl rfl<|gA<|Zb<|Za<|gm rfl rfl<|gnc rfl rfl<|gr rfl (Zd rfl (YG _))<|gr rfl (Zi Tryz.underlying135 rfl rfl (by exact Zp 5 rfl rfl)) ?_
   refine gm rfl rfl<|gr rfl (Zcv 1 HV rfl Tryz.underlying135 Tryz.underlying3 Y3 rfl rfl)<|Zt (ZU Y3 rfl rfl (fun b12=>?_))
   rw [hgx,Option.map_some,Option.getD_some]
   refine Zt (Zz 0 Y3 rfl rfl rfl rfl rfl rfl (by rfl) ?_)
   refine gA<|Zb<|Zb<|Za<|gr rfl (Zd rfl (Zml _))<|gr rfl (Zd rfl (Zdw _))<|gr rfl (Zi Tryz.underlying3 rfl rfl (by exact Zp 0 rfl rfl)) ?_
   refine gm rfl rfl<|gr rfl (Z4 rfl rfl) (Zw (fun h92=>?_) (fun h92=>?_))
   ·refine gA<|Zk rfl<|Z1<|Zs<|ZE<|Ze<|Za<|gr rfl (by exact ZL (b:=1) rfl rfl (by omega)) ?_
    refine gm rfl rfl<|ZM<|Ze ?_
    exact ZR ((i+1,sl,g,m2,nb2)) ⟨⟨by simp only; omega,by simp only; rw [Zgq hk,hmv]; unfold JX; rw [if_neg (fun h=>h rfl),hpg]; simp only; rw [if_pos (by omega)],hm2,hg,hgl,by simp only; omega,hger,hcn,hkeys⟩,by simp only; omega⟩ ⟨rfl,rfl,rfl,rfl,rfl,rfl,trivial⟩ (YL 1 rfl)
   have hxv:x.en.bk=v:=by omega
   have hcp:=Zlk (z:=⟨x.en.key,x.en.num,x.en.val,fb,sl⟩) hxv (show fb≠v by omega) hpg
   have hplt:=WE (num:=x.en.num) (show x.en.key<65536 by have:=hxe.key; omega) hxe.val hxe.len
   have hp24:=XO (key:=x.en.key) (num:=x.en.num) hxe.len
   have hen2:EnOk ⟨x.en.key,x.en.num,x.en.val,fb,sl⟩:=⟨hxe.key,hxe.num,hxe.len,hxe.val,(by simp only; omega),(by simp only; omega)⟩
   obtain ⟨w1,w2,w3,w4,w5⟩:=Zab hg (o:=fb * 256+sl * 24) hplt (packP x.en.key x.en.num x.en.val).length (by omega)
   rw [show XW g (fb * 256+sl * 24) (packP x.en.key x.en.num x.en.val) (packP x.en.key x.en.num x.en.val).length=Ya g (fb * 256+sl * 24) (packP x.en.key x.en.num x.en.val) from rfl] at w1 w2 w3 w4 w5
   rw [hp24] at w2
   refine gA<|Zl rfl<|Zv<|Ze<|Zb<|Zb<|ZO [0,1,2,7,8,9] true 6 rfl<|Zc 0 rfl rfl ⟨[0,1,2,7,8,9],by decide,rfl⟩ (Zf (Zo rfl)) ?_
   refine Zc 1 rfl rfl ⟨[0,1,2,7,8,9],by decide,rfl⟩ (Zf (Zr Tryz.underlying182 rfl Yq rfl (by exact ZH 1 (off:=0) (k:=2) rfl rfl) rfl)) ?_
   refine Zc 2 rfl rfl ⟨[0,1,2,7,8,9],by decide,rfl⟩ (Zf (Zd rfl (Zbt _))) ?_
   refine Zc 3 rfl rfl ⟨[0,1,2,7,8,9],by decide,rfl⟩ (Zf (Zr Tryz.underlying184 rfl Yl rfl (by exact ZH 0 (off:=0) (k:=3) rfl rfl) rfl)) ?_
   refine ZK 4 rfl (.inr ⟨[0,1,2,7,8,9],by decide,rfl⟩) (ZJ rfl (vf:=[]) (vc:=[]) rfl rfl Tryz.call190 (fun w1 ho=>Vp x hxe x.en.num hxe.num w1 (ho.memSl (show x.row∈_ from by simp [hxr])) (V6 ho (show x.row∈_ from by simp [hxr]))) ?_)
   rintro _ _ ⟨rr,cr,rfl,rfl⟩
   refine ZK 5 rfl (.inr ⟨[1,2,3,8,9,10],by decide,rfl⟩) (Yr [_,_,_,_,_,_,_,_,_,_,_] T [7,4,5,6] [0,1,2,3,8,9,10] 11 rfl rfl rfl (vf:=[]) (vc:=[]) rfl rfl Tryz.call189 (by decide) (by decide) rfl (fun w how hc=>Vo g hg bs bf rb cb rp cp id bm num fb _ w hc (by omega) fb sl (by omega) (by omega) (packP x.en.key x.en.num x.en.val) hplt hp24 (some ⟨rr,0,none⟩) 24 (Za0 how 0 [7,4,5,6] rfl (by decide))) ?_)
   rintro _ _ ⟨rfl,rfl⟩
   refine Zc 6 rfl rfl ⟨[5,6,7,8,9,10],by decide,rfl⟩ (Zf (ZY rfl)) ?_
   refine ZP (.inr ⟨[5,6,7,8,9,10],by decide,rfl⟩) ?_
   refine Ze<|Zb<|Za<|gm rfl rfl<|gr rfl (Z4 rfl rfl) (Zw (fun h100=>?_) (fun h100=>?_))
   ·refine gA<|Zk rfl<|Zb<|Za<|gm rfl rfl<|gas rfl rfl<|gA<|Zu<|Zh<|Zx<|Zh<|Zh<|Zx<|Zh<|ZW (.inl rfl) Tryz.results187 rfl (ZS (A:=[_,_,_,_,_]) (B:=[_,_,_,_,_,_,_,_,_,_,_]) (T:=T) [0,7,1,2,3] 11 (by decide) (by decide) rfl rfl) ?_
    have hst:Zad fb v (keysP (plain m)) f (plain m) (i+1)=(((Ya g (fb * 256+sl * 24) (packP x.en.key x.en.num x.en.val)).1,plain m2),sl,(Ya g (fb * 256+sl * 24) (packP x.en.key x.en.num x.en.val)).2):=by rw [Zgq hk,hmv]; unfold JX; rw [if_neg (fun h=>h rfl),hpg]; simp only; rw [if_neg (by omega),if_pos h100]
    have hfin:=mv_stay (i:=i+1) (by rw [hst]; exact h100)
    rw [hst] at hfin
    exact ⟨_,(Ya g (fb * 256+sl * 24) (packP x.en.key x.en.num x.en.val)).1,m2,nb2,fb,rfl,⟨v,by omega,hv3,fun i hi hne=>hv4 i (by omega) hne,.inr ⟨by omega,.inl (by rw [hfin]; exact ⟨h100,rfl,rfl,rfl,rfl⟩)⟩⟩,hm2,w1,by omega,by omega,rfl⟩
   refine gA<|Zl rfl<|Zv<|Ze<|Zb<|ZO [0,1,2,3,4,5,6,8,9,10] false 9 rfl<|Zc 0 rfl rfl ⟨[0,1,2,3,4,5,6,8,9,10],by decide,rfl⟩ (Zf (Zo rfl)) ?_
   refine Zc 1 rfl rfl ⟨[0,1,2,3,4,5,6,8,9,10],by decide,rfl⟩ (Zf (ZN rfl)) ?_
   refine Zc 2 rfl rfl ⟨[0,1,2,3,4,5,6,8,9,10],by decide,rfl⟩ (Zf (Zd rfl (YG _))) ?_
   refine Zc 3 rfl rfl ⟨[0,1,2,3,4,5,6,8,9,10],by decide,rfl⟩ (Zf (Zi Tryz.underlying135 rfl rfl (by exact Zp 0 rfl rfl))) ?_
   refine Zc 4 rfl rfl ⟨[0,1,2,3,4,5,6,8,9,10],by decide,rfl⟩ (Zf (Zo rfl)) ?_
   refine Zc 5 rfl rfl ⟨[0,1,2,3,4,5,6,8,9,10],by decide,rfl⟩ (Zf (Zd rfl (Zbt _))) ?_
   refine Zc 6 rfl rfl ⟨[0,1,2,3,4,5,6,8,9,10],by decide,rfl⟩ (Zf (Zr Tryz.underlying184 rfl Yl rfl (by exact ZH 5 (off:=0) (k:=3) rfl rfl) rfl)) ?_
   refine Zc 7 rfl rfl ⟨[0,1,2,3,4,5,6,8,9,10],by decide,rfl⟩ (Zf (Zr Tryz.underlying182 rfl Yq rfl (by exact ZH 6 (off:=0) (k:=2) rfl rfl) rfl)) ?_
   refine Zc 8 rfl rfl ⟨[0,1,2,3,4,5,6,8,9,10],by decide,rfl⟩ (Zf (ZT rfl (fun _=>Xk _ _ _ _ _ _ _))) ?_
   refine ZK 9 rfl (.inr ⟨[0,1,2,3,4,5,6,8,9,10],by decide,rfl⟩) (Xi 7 HV (v:=⟨⟨x.en.key,x.en.num,x.en.val,fb,sl⟩,x.r,x.c⟩) Tryz.underlying135 Tryz.underlying3 rfl rfl rfl rfl rfl ?_)
   refine ZP (.inl (by kernel_rfl)) ?_
   refine Ze<|Za<|gr rfl (Zd rfl (Zdx _))<|gr rfl (Zi Tryz.underlying3 rfl rfl (by exact Zp 6 rfl rfl)) ?_
   refine gr rfl (by exact ZL (b:=1) rfl rfl (by omega)) ?_
   refine gr rfl (Zd rfl (Zdx _))<|Zt (Yc 6 Y7 rfl rfl rfl rfl rfl (by rfl) (by rfl) ?_)
   refine ZM<|ZI<|Ze<|Za<|gr rfl (by exact ZL (b:=1) rfl rfl (by omega)) ?_
   refine gm rfl rfl<|ZM<|Ze ?_
   have hst:Zad fb v (keysP (plain m)) f (plain m) (i+1)=(((Ya g (fb * 256+sl * 24) (packP x.en.key x.en.num x.en.val)).1,Za3 ⟨x.en.key,x.en.num,x.en.val,fb,sl⟩ (plain m2)),sl+1,0):=by rw [Zgq hk,hmv]; unfold JX; rw [if_neg (fun h=>h rfl),hpg]; simp only; rw [if_neg (by omega),if_neg (by omega)]
   exact ZR ((i+1,sl+1,(Ya g (fb * 256+sl * 24) (packP x.en.key x.en.num x.en.val)).1,WL (x.en.key:Int) ⟨⟨x.en.key,x.en.num,x.en.val,fb,sl⟩,x.r,x.c⟩ nb2 m2,mnb (x.en.key:Int) m2 nb2)) ⟨⟨by simp only; omega,by simp only; rw [hst,WH ⟨⟨x.en.key,x.en.num,x.en.val,fb,sl⟩,x.r,x.c⟩ nb2 hm2.key],hm2.put ⟨⟨x.en.key,x.en.num,x.en.val,fb,sl⟩,x.r,x.c⟩ hen2 (fun y hy=>hy) hxr,w1,by simp only; omega,by simp only; omega,by simp only; rw [show ((Ya g (fb * 256+sl * 24) (packP x.en.key x.en.num x.en.val)).1).er=g.er from wr_er _ _ _ _]; exact hger,by simp only; rw [WH ⟨⟨x.en.key,x.en.num,x.en.val,fb,sl⟩,x.r,x.c⟩ nb2 hm2.key]; show X5 (Za3 ⟨x.en.key,x.en.num,x.en.val,fb,sl⟩ (plain m2)) v+(sl+1)=X5 (plain m) v; omega,by simp only; rw [WH ⟨⟨x.en.key,x.en.num,x.en.val,fb,sl⟩,x.r,x.c⟩ nb2 hm2.key,Zae (by rw [hpg]; rfl)]; exact hkeys⟩,by simp only; omega⟩ ⟨rfl,rfl,rfl,rfl,rfl,rfl,trivial⟩ (ZS (A:=[_,_,_,_,_,_,_,_,_]) (B:=[_,_,_,_,_,_,_,_,_,_,_]) (T:=T) [6,7,1,2,3,0,8,9,10] 11 (by decide) (by decide) rfl rfl)
  refine gA<|Zb<|Zl rfl<|Z1<|Zs<|Zs<|ZE<|Ze<|Zb<|Zb<|Za<|gm rfl rfl<|gnc rfl rfl<|gr rfl (Zd rfl (X3 _))<|gr rfl (Zi Tryz.underlying32 rfl rfl (by exact Zp 5 rfl rfl)) ?_
  refine gr rfl (Zo rfl) ?_
  have hie:i=(keysP (plain m)).length:=by omega
  subst hie
  obtain ⟨e1,e2,e3,e4,e5⟩:=Ze4 hg (by omega) (v:Int)
  refine Zt (Yr [_,_,_,_,_,_,_,_,_] T [2,3,4] [0,1,5,6,7,8] 9 rfl rfl rfl (vf:=[]) (vc:=[]) rfl rfl Tryz.call72 (by decide) (by decide) rfl (fun w how hc=>Zm4 g hg bf rb cb rp cp _ w hc (v:Int)) ?_)
  rintro _ _ ⟨rfl,rfl⟩
  refine gas rfl rfl<|gA<|Zb<|Za<|gm rfl rfl<|gr rfl (Z4 rfl rfl) (Zw (fun h123=>?_) (fun h123=>?_))
  ·refine gA<|Zk rfl<|Zb<|Za<|gm rfl rfl<|gas rfl rfl<|gA<|Zu<|Zh<|ZW (.inl rfl) Tryz.results187 rfl (ZS (A:=[_,_,_,_,_]) (B:=[_,_,_,_,_,_,_,_,_]) (T:=T) [5,4,0,1,2] 9 (by decide) (by decide) rfl rfl) ?_
   exact ⟨_,(Yy g (v:Int)).1,m2,nb2,fb,rfl,⟨v,by omega,hv3,fun i hi hne=>hv4 i (by omega) hne,.inr ⟨by omega,.inr (by rw [hmv]; exact ⟨rfl,rfl,rfl,rfl,by rw [if_pos h123]⟩)⟩⟩,hm2,e1,by omega,by omega,rfl⟩
  refine gA<|Zl rfl<|Zv<|Ze<|Zb<|Za<|gm rfl rfl<|gm rfl rfl<|gnc rfl rfl<|gr rfl (Zd rfl (Vk _))<|Zt (Yc 5 Y7 rfl rfl rfl rfl rfl (by rfl) (by rfl) ?_)
  refine gA<|Zb<|Za<|gas rfl rfl<|gA<|Zu<|ZW (.inl rfl) Tryz.results187 rfl (ZS (A:=[_,_,_,_,_]) (B:=[_,_,_,_,_,_,_,_,_]) (T:=T) [5,4,0,1,2] 9 (by decide) (by decide) rfl rfl) ?_
  have h0:(Yy g (v:Int)).2=0:=Decidable.byContradiction h123
  exact ⟨0,(Yy g (v:Int)).1,m2,nb2,v,rfl,⟨v,by omega,hv3,fun i hi hne=>hv4 i (by omega) hne,.inr ⟨by omega,.inr (by rw [hmv]; exact ⟨rfl,rfl,h0.symm,rfl,rfl⟩)⟩⟩,hm2,e1,by omega,by omega,rfl⟩
 refine gr rfl (ZD rfl rfl)<|gA<|Zb<|Zk rfl<|Zv<|Ze<|ZB<|Zb<|Za<|gr rfl (Zl5 3 0 HV hms.ok hy rfl rfl rfl)<|gr rfl (ZD rfl rfl)<|Zt (ZU Y3 rfl rfl (fun b5=>?_))
 refine Zt (Zz 0 Y3 rfl rfl rfl rfl rfl rfl (by rfl) ?_)
 refine ZM<|Ze ?_
 have hyb:=hbn y hy
 have hcl:=cnt_le (plain ds) y.v.en.bk
 have hcl2:(plain ds).length=ds.length:=by simp [plain]
 refine Za<|gm rfl rfl<|gr rfl (Zd rfl (Zml _))<|gr rfl (Zd rfl (Zdw _))<|gr rfl (Zi Tryz.underlying3 rfl rfl (by exact Zp 0 rfl rfl)) ?_
 refine gr rfl (Ys 2 rfl Tryz.underlying24 Y7 rfl rfl (by omega) (by omega)) ?_
 refine gr rfl (Zi Tryz.underlying3 rfl rfl (WU 2 rfl (Zgp (P:=plain ds) hyb)))<|gr rfl (by exact ZL (b:=1) rfl rfl (by omega)) ?_
 refine gr rfl (Ys 2 rfl Tryz.underlying24 Y7 rfl rfl (by omega) (by omega)) ?_
 refine Zt (YB 2 Y7 rfl rfl rfl rfl (by simp [cntL_len]; omega) (setN (cntL (plain ds) (f.b.length / 256)) y.v.en.bk (X5 (plain ds) y.v.en.bk+1)) (by rfl) ?_)
 refine ZM<|ZI<|Ze ?_
 obtain ⟨hn1,hn2,hn3⟩:=Zm9 hms.ok hnd hsub hy hyd
 rw [cnt_snoc (plain ds) y.v.en _ hyb,show plain ds++[y.v.en]=plain (ds++[y]) by simp [plain]]
 exact ZR ((ds++[y])) ⟨⟨hn1,hn2⟩,by simp; omega⟩ ⟨rfl,rfl,rfl,trivial⟩ (YL 1 rfl)
end Go.Proofs.YthcbcdjkfefnlaaGreatDoor
