import Derived.Test.YthcbcdjkfefnlaaGreatDoorW03
import Derived.Test.YthcbcdjkfefnlaaGreatDoorW02
import Derived.Test.YthcbcdjkfefnlaaGreatDoorW01
import Derived.Test.YthcbcdjkfefnlaaGreatDoorW00
/- A part of the proof: walks of the program. -/
set_option autoImplicit false
set_option linter.unusedSimpArgs false
set_option linter.unusedVariables false
set_option linter.unnecessarySimpa false
set_option maxRecDepth 100000
set_option maxHeartbeats 8000000
namespace Go.Proofs.YthcbcdjkfefnlaaGreatDoor
open Go.Gv
open Go.RowKit
open Iv
namespace Iv
def VV (e:Int) (id:Nat):Nat:=if e=9 then 0 else id
def Zh1 (f:Fl) (P:List En) (num fb id key:Nat) (vs:List Nat) (e:Int) (f':Fl) (P':List En) (num' id':Nat):Prop :=
  ∃ bk sl,RoomAt f.b (fb:Int) bk sl∧f'=(Ya f (bk * 256+sl * 24) (packP key (num+1) vs)).1∧e=(Ya f (bk * 256+sl * 24) (packP key (num+1) vs)).2 ∧
    ((e≠0∧P'=P∧num'=num∧id'=VV e id)∨(e=0∧P'=Za3 ⟨key,num+1,vs,bk,sl⟩ P∧num'=num+1∧id'=id))
def PutGo (f:Fl) (P:List En) (num fb id key:Nat) (vs:List Nat) (e:Int) (f':Fl) (P':List En) (num' fb' id':Nat):Prop :=
  (Zh1 f P num fb id key vs e f' P' num' id'∧fb'=fb) ∨
  (NoRoom f.b (fb:Int)∧∃ (e1:Int) (f1:Fl) (P1:List En) (fb1:Nat),Zh0 f P fb e1 f1 P1 fb1 ∧
    ((e1≠0∧e=e1∧f'=f1∧P'=P1∧num'=num∧fb'=fb1∧id'=VV e1 id) ∨
     (e1=0∧NoRoom f1.b (fb1:Int)∧e=6∧f'=f1∧P'=P1∧num'=num∧fb'=fb1∧id'=id) ∨
     (e1=0∧Zh1 f1 P1 num fb1 id key vs e f' P' num' id'∧fb'=fb1)))
def Full (P:List En) (n key:Nat):Prop:=YY key P=none∧10 * (n - 2)≤P.length
theorem Zll {f:Fl} {bs gb:Nat} {free:Int} {w0:World} (h:Sp Tryz.prog 186 [.pointer (some ⟨bs,0,none⟩)] w0 [] (RoomR f.b free)):Sp Tryz.prog 186 [.pointer (some ⟨bs,0,none⟩)] w0 [] (fun v L=>(∃ bk sl:Nat,v=.tuple #[.agg #[natV bk,natV sl],.bool true]∧RoomAt f.b free bk sl∧L=[])∨(∃ bk sl:Nat,v=.tuple #[.agg #[natV bk,natV sl],.bool false]∧NoRoom f.b free∧L=[])):=by
 refine h.mono ?_
 rintro v L ⟨rfl,⟨bk,sl,h1,h2⟩ | ⟨bk,sl,h1,h2⟩⟩
 ·exact .inl ⟨bk,sl,h1,h2,rfl⟩
 ·exact .inr ⟨bk,sl,h1,h2,rfl⟩
end Iv
theorem Put_ok (f:Fl) (hf:f.Ok) (bs bf:Nat) (rb:Option Nat) (cb:Nat) (rp:Option Nat) (cp:Nat) (id bm num:Nat) (fb:Nat) (m:List (ME He)) (nb:Nat) (T:List HL) (hms:MSt m nb T) (S:List Nat) (w0:World) (hown:Own w0 S w0 (.blk bs [.bool true,.pointer (some ⟨bf,0,none⟩),natV id,.map (some bm),.int .u32 ((num:Nat):Int),.int .i64 ((fb:Nat):Int)] 138 :: .obj bm (X0 HV m nb)::(FlH bf rb cb rp cp f++T))) (hml:m.length≤1000000) (hfb:fb<f.b.length / 256) (hbn:∀ x∈m,x.v.en.bk<f.b.length / 256) (hpr:f.pr+24 * m.length+48<4611686018427387904) (her:f.er+1<4611686018427387904) (hnum:num+1<4294967296) (key:Nat) (hkey:key≤999) (vs:List Nat) (hvs:∀ z∈vs,z<256) (hv16:vs.length≤16) (a:Option Addr) (ca:Nat) (hsl:OldSl w0 S a vs.length 1 (vs.map u8V)):Sp Tryz.prog 182 [.pointer (some ⟨bs,0,none⟩),natV key,.slice a vs.length ca] w0 S (fun v L=>(Vn f id≠0∧v=.int .i64 (Vn f id)∧L=(.blk bs [.bool true,.pointer (some ⟨bf,0,none⟩),natV id,.map (some bm),.int .u32 ((num:Nat):Int),.int .i64 ((fb:Nat):Int)] 138 :: .obj bm (X0 HV m nb)::(FlH bf rb cb rp cp f++T)))∨(Vn f id=0∧Full (plain m) (f.b.length / 256) key∧v=.int .i64 5∧L=(.blk bs [.bool true,.pointer (some ⟨bf,0,none⟩),natV id,.map (some bm),.int .u32 ((num:Nat):Int),.int .i64 ((fb:Nat):Int)] 138 :: .obj bm (X0 HV m nb)::(FlH bf rb cb rp cp f++T)))∨(Vn f id=0∧¬ Full (plain m) (f.b.length / 256) key∧∃ (e:Int) (f2:Fl) (m2:List (ME He)) (nb2 fb2 num2 id2:Nat) (T2:List HL),v=.int .i64 e∧PutGo f (plain m) num fb id key vs e f2 (plain m2) num2 fb2 id2∧MSt m2 nb2 T2∧(∀ y∈T,y∈T2)∧f2.Ok∧f2.b.length=f.b.length∧f2.pr≤f.pr+24 * m.length+24∧L=(.blk bs [.bool true,.pointer (some ⟨bf,0,none⟩),natV id2,.map (some bm),.int .u32 ((num2:Nat):Int),.int .i64 ((fb2:Nat):Int)] 138 :: .obj bm (X0 HV m2 nb2)::(FlH bf rb cb rp cp f2++T2)))):=by
 have hbl:=hf.hi
 have hbl0:=hf.lo
 have hblm:=hf.len
 have hpml:(plain m).length=m.length:=by simp [plain]
 obtain ⟨gb,rfl,hcb⟩:=Zbw (hown.holds (.row 5 1 rb f.b.length cb (f.b.map u8V)) (by simp)) (by omega)
 refine ZC Tryz.func182 rfl Tryz.ntmps182 rfl hown ?_
 simp only [ZV]
 refine Zb<|Za<|gas rfl rfl<|gA<|Zb<|Zb<|Za<|gm rfl rfl<|gr rfl (X6 eg_33 Tryz.underlying33 rfl rfl)<|gm rfl rfl<|Zg rfl rfl<|Zm rfl (Zo rfl)<|Zg rfl rfl<|Zm rfl (ZN rfl)<|Zg rfl rfl<|Zm rfl (Zd rfl (Zhg _))<|Zg rfl rfl (Zm rfl (Zi Tryz.underlying4 rfl rfl (by exact Zp 0 rfl rfl)) ?_)
 refine Zg rfl rfl<|Zm rfl (rd_not rfl)<|gr rfl (Zn rfl rfl)<|gA<|Zl rfl<|Zv<|Ze<|Zb<|Zb<|Za<|gm rfl rfl<|gr rfl (ZX rfl rfl) (Zw (fun h25=>?_) (fun h25=>?_))
 ·exfalso; omega
 refine gm rfl rfl<|Zg rfl rfl<|Zm rfl (Zo rfl)<|Zg rfl rfl (Zm rfl (Yk rfl rfl) (Zw (fun h28=>?_) (fun h28=>?_)))
 ·exfalso; omega
 refine gr rfl (Zn rfl rfl)<|gm rfl rfl<|Zg rfl rfl<|Zm rfl (Zo rfl)<|Zg rfl rfl<|Zm rfl (ZA Tryz.underlying65 rfl)<|Zg rfl rfl (Zm rfl (Yk rfl rfl) (Zw (fun h33=>?_) (fun h33=>?_)))
 ·exfalso; omega
 refine gr rfl (Zn rfl rfl)<|gA<|Zl rfl<|Zv<|Ze<|Zb<|Zb<|Za<|gm rfl rfl<|Zt (ZJ rfl (vf:=[]) (vc:=[]) rfl rfl Tryz.call184 (fun w1 ho=>Zgm f hf bs bf (some gb) cb rp cp id bm num fb w1 (ho.blkCells 0 rfl) (ho.blkCells 2 rfl)) ?_)
 rintro _ _ ⟨rfl,rfl⟩
 refine gas rfl rfl<|gA<|Zb<|Za<|gm rfl rfl<|gr rfl (Z4 rfl rfl) (Zw (fun h38=>?_) (fun h38=>?_))
 ·refine gA<|Zk rfl<|Zb<|Za<|gm rfl rfl<|gas rfl rfl<|gA<|Zu<|Zh<|ZW (.inl rfl) Tryz.results182 rfl (YL 0 rfl) ?_
  exact .inl ⟨h38,rfl,rfl⟩
 refine gA<|Zl rfl<|Zv<|Ze<|Zb<|Zb ?_
 rcases hg:Wz ((key:Nat):Int) m with _ | o
 ·refine Za<|gm rfl rfl<|gnc rfl rfl<|gr rfl (Zd rfl (YG _))<|gr rfl (Zi Tryz.underlying135 rfl rfl (by exact Zp 0 rfl rfl)) ?_
  refine gm rfl rfl<|gr rfl (XK 1 HV rfl Tryz.underlying135 Tryz.underlying3 Y3 rfl rfl)<|gm rfl rfl<|gr rfl (ZD rfl rfl)<|gr rfl (ZD rfl rfl)<|Zt (ZU Y3 rfl rfl (fun b8=>?_))
  rw [hg,Option.map_none,Option.getD_none,Option.isSome_none]
  refine Zt (Zz 0 Y3 rfl rfl rfl rfl rfl rfl (by rfl) ?_)
  refine gas rfl rfl<|gA<|Zb<|Za<|gm rfl rfl<|gr rfl (rd_not rfl)<|gm rfl rfl<|Zg rfl rfl<|Zm rfl (Zo rfl)<|Zg rfl rfl<|Zm rfl (ZN rfl)<|Zg rfl rfl<|Zm rfl (Zd rfl (YG _))<|Zg rfl rfl (Zm rfl (Zi Tryz.underlying135 rfl rfl (by exact Zp 1 rfl rfl)) ?_)
  refine Zg rfl rfl<|Zm rfl (rd_lenM 2 HV rfl Tryz.underlying135 rfl)<|Zg rfl rfl<|Zm rfl (Zo rfl)<|Zg rfl rfl (ZJ rfl (vf:=[]) (vc:=[]) rfl rfl Tryz.call183 (fun w1 ho=>most_q f hf bs bf (some gb) cb rp cp id bm num fb w1 (ho.blkCells 1 rfl) (ho.blkCells 3 rfl)) ?_)
  rintro _ _ ⟨rfl,rfl⟩
  refine Zg rfl rfl (Zm rfl (Xs rfl rfl) (Zw (fun h59=>?_) (fun h59=>?_)))
  ·refine gr rfl (Zq rfl rfl)<|gA<|Zk rfl<|Zb<|Za<|gas rfl rfl<|gA<|Zu<|Zh<|ZW (.inl rfl) Tryz.results182 rfl (YL 1 rfl) ?_
   exact .inr (.inl ⟨by omega,⟨hms.none hg,by rw [hpml]; omega⟩,rfl,rfl⟩)
  refine gr rfl (Zq rfl rfl)<|gA<|Zl rfl<|Zv<|Ze<|Zb ?_
  have hnf:¬ Full (plain m) (f.b.length / 256) key:=fun ⟨h1,h2⟩=>by
   rw [hpml] at h2; omega
  refine Za<|gm rfl rfl<|Zt (ZJ rfl (vf:=[]) (vc:=[]) rfl rfl Tryz.call186 (fun w1 ho=>Zll (gb:=gb) (Zlg f hf bs bf gb cb rp cp id bm num fb w1 (ho.blkCells 1 rfl) (ho.blkCells 3 rfl) (ho.rowSl 4 rfl) (by omega))) ?_)
  rintro _ _ (⟨bk,sl,rfl,hroom,rfl⟩ | ⟨bk,sl,rfl,hno,rfl⟩)
  ·refine gm rfl rfl<|gr rfl (ZD rfl rfl)<|gr rfl (ZD rfl rfl)<|Zt (ZU Yq rfl rfl (fun b10=>?_))
   refine Zt (Zz 0 Yq rfl rfl rfl rfl rfl rfl (by rfl) ?_)
   refine gas rfl rfl<|gA<|Zb<|Zb<|Za<|gm rfl rfl<|gr rfl (rd_not rfl)<|gA<|Zl rfl<|Zv<|Ze<|Zb<|ZO [0,1,2,3,4,5,6] false 10 rfl<|Zc 0 rfl rfl ⟨[0,1,2,3,4,5,6],by decide,rfl⟩ (Zf (Zo rfl)) ?_
   refine Zc 1 rfl rfl ⟨[0,1,2,3,4,5,6],by decide,rfl⟩ (Zf (Zo rfl)) ?_
   refine Zc 2 rfl rfl ⟨[0,1,2,3,4,5,6],by decide,rfl⟩ (Zf (ZN rfl)) ?_
   refine Zc 3 rfl rfl ⟨[0,1,2,3,4,5,6],by decide,rfl⟩ (Zf (Zd rfl (YQ _))) ?_
   refine Zc 4 rfl rfl ⟨[0,1,2,3,4,5,6],by decide,rfl⟩ (Zf (Zi Tryz.underlying136 rfl rfl (by exact Zp 2 rfl rfl))) ?_
   refine Zc 5 rfl rfl ⟨[0,1,2,3,4,5,6],by decide,rfl⟩ (Zf (Wh (b:=1) rfl rfl (by omega))) ?_
   refine Zc 6 rfl rfl ⟨[0,1,2,3,4,5,6],by decide,rfl⟩ (Zf (Zo rfl)) ?_
   refine Zap 7 9 (Gv.bm 11 255) (Gv.bm 11 639) rfl rfl rfl rfl (by kernel_rfl) (by kernel_rfl) (by kernel_rfl) (.inr ⟨[0,1,2,3,4,5,6],by decide,rfl⟩) ?_ ?_
   ·refine (ZJ rfl (vf:=[]) (vc:=[]) rfl rfl Tryz.call39 (fun w2 ho=>Wg vs a ca w2 (hsl.at ho) (by omega)) ?_)
    rintro _ _ ⟨rv,cv,rfl,rfl⟩
    refine Zc 8 rfl rfl ⟨[1,2,3,4,5,6,7],by decide,rfl⟩ (Zf (ZT rfl (fun _=>XN _ _ _ _ _))) ?_
    refine ZK 9 rfl (.inr ⟨[1,2,3,4,5,6,7],by decide,rfl⟩) (ZU Yl rfl rfl (fun b13=>?_))
    refine ZK 10 rfl (.inr ⟨[2,3,4,5,6,7,8],by decide,rfl⟩) (Zz 0 Yl rfl rfl rfl rfl rfl rfl (by rfl) ?_)
    refine ZP (.inl (by kernel_rfl)) ?_
    refine Ze<|Zb<|Zb ?_
    have hbkn:=hroom.hbk
    have hslt:=hroom.hsl
    have hplt:=WE (num:=num+1) (show key<65536 by omega) hvs hv16
    have hp24:=XO (key:=key) (num:=num+1) hv16
    obtain ⟨w1,w2,w3,w4,w5⟩:=Zab hf (o:=bk * 256+sl * 24) hplt (packP key (num+1) vs).length (by omega)
    rw [show XW f (bk * 256+sl * 24) (packP key (num+1) vs) (packP key (num+1) vs).length=Ya f (bk * 256+sl * 24) (packP key (num+1) vs) from rfl] at w1 w2 w3 w4 w5
    rw [hp24] at w2
    refine ZO [0,1,2,3,5] true 5 rfl<|Zc 0 rfl rfl ⟨[0,1,2,3,5],by decide,rfl⟩ (Zf (Zo rfl)) ?_
    refine Zc 1 rfl rfl ⟨[0,1,2,3,5],by decide,rfl⟩ (Zf (Zr Tryz.underlying182 rfl Yq rfl (by exact ZH 2 (off:=0) (k:=2) rfl rfl) rfl)) ?_
    refine Zc 2 rfl rfl ⟨[0,1,2,3,5],by decide,rfl⟩ (Zf (Zr Tryz.underlying184 rfl Yl rfl (by exact ZH 0 (off:=0) (k:=3) rfl rfl) rfl)) ?_
    refine ZK 3 rfl (.inr ⟨[0,1,2,3,5],by decide,rfl⟩) (ZJ rfl (vf:=[]) (vc:=[]) rfl rfl Tryz.call190 (fun w2 ho=>Vp ⟨⟨key,num+1,vs,bk,sl⟩,rv,cv⟩ ⟨hkey,hnum,hv16,hvs,(by simp only; omega),(by simp only; omega)⟩ (num+1) hnum w2 (ho.rowSl 1 rfl) (V6 (x:=⟨⟨key,num+1,vs,bk,sl⟩,rv,cv⟩) ho (List.mem_of_getElem? (i:=1) rfl))) ?_)
    rintro _ _ ⟨rr,cr,rfl,rfl⟩
    refine ZK 4 rfl (.inr ⟨[1,2,3,4,6],by decide,rfl⟩) (Yr [_,_,_,_,_,_,_,_,_,_] T [5,7,8,9] [0,1,2,3,4,6] 10 rfl rfl rfl (vf:=[]) (vc:=[]) rfl rfl Tryz.call189 (by decide) (by decide) rfl (fun w how hc=>Vo f hf bs bf (some gb) cb rp cp id bm num fb _ w hc (by omega) bk sl (by have:=hroom.hbk; omega) hroom.hsl (packP key (num+1) vs) hplt hp24 (some ⟨rr,0,none⟩) 24 (Za0 how 0 [5,7,8,9] rfl (by decide))) ?_)
    rintro _ _ ⟨rfl,rfl⟩
    refine Zc 5 rfl rfl ⟨[5,6,7,8,9],by decide,rfl⟩ (Zf (ZY rfl)) ?_
    refine ZP (.inr ⟨[5,6,7,8,9],by decide,rfl⟩) ?_
    refine Ze<|Zb<|Za<|gm rfl rfl<|gr rfl (Z4 rfl rfl) (Zw (fun h97=>?_) (fun h97=>?_))
    ·refine gA<|Zk rfl<|Zb<|Za<|gm rfl rfl<|gm rfl rfl<|Zt (Yr [_,_,_,_,_,_,_,_,_,_] T [0] [1,2,3,4,5,6,7,8,9] 10 rfl rfl rfl (vf:=[]) (vc:=[]) rfl rfl Tryz.call188 (by decide) (by decide) rfl (fun w how hc=>XU [] bs bf bm id num fb (Ya f (bk * 256+sl * 24) (packP key (num+1) vs)).2 _ w hc) ?_)
     rintro _ _ ⟨rfl,rfl⟩
     refine gas rfl rfl<|gA<|Zu<|Zh<|ZW (.inl rfl) Tryz.results182 rfl (ZS (A:=[_,_,_,_,_]) (B:=[_,_,_,_,_,_,_,_,_,_]) (T:=T) [0,9,1,2,3] 10 (by decide) (by decide) rfl rfl) ?_
     exact .inr (.inr ⟨by omega,hnf,(Ya f (bk * 256+sl * 24) (packP key (num+1) vs)).2,(Ya f (bk * 256+sl * 24) (packP key (num+1) vs)).1,m,nb,fb,num,VV (Ya f (bk * 256+sl * 24) (packP key (num+1) vs)).2 id,T,rfl,.inl ⟨⟨bk,sl,hroom,rfl,rfl,.inl ⟨h97,rfl,rfl,rfl⟩⟩,rfl⟩,hms,(fun _ h=>h),w1,by omega,by omega,rfl⟩)
    refine gA<|Zl rfl<|Zv<|Ze<|Zb<|Za<|gm rfl rfl<|gnc rfl rfl<|gr rfl (Zd rfl (YQ _))<|gr rfl (Zi Tryz.underlying136 rfl rfl (by exact Zp 0 rfl rfl)) ?_
    refine gr rfl (Wh (b:=1) rfl rfl (by omega)) ?_
    refine gnc rfl rfl<|gr rfl (Zd rfl (YQ _))<|Zt (Yc 0 Jm rfl rfl rfl rfl rfl (by rfl) (by rfl) ?_)
    refine gA<|Zb<|ZO [0,1,2,3,4,5,6,7,8] false 8 rfl<|Zc 0 rfl rfl ⟨[0,1,2,3,4,5,6,7,8],by decide,rfl⟩ (Zf (Zo rfl)) ?_
    refine Zc 1 rfl rfl ⟨[0,1,2,3,4,5,6,7,8],by decide,rfl⟩ (Zf (ZN rfl)) ?_
    refine Zc 2 rfl rfl ⟨[0,1,2,3,4,5,6,7,8],by decide,rfl⟩ (Zf (Zd rfl (YG _))) ?_
    refine Zc 3 rfl rfl ⟨[0,1,2,3,4,5,6,7,8],by decide,rfl⟩ (Zf (Zi Tryz.underlying135 rfl rfl (by exact Zp 0 rfl rfl))) ?_
    refine Zc 4 rfl rfl ⟨[0,1,2,3,4,5,6,7,8],by decide,rfl⟩ (Zf (Zo rfl)) ?_
    refine Zc 5 rfl rfl ⟨[0,1,2,3,4,5,6,7,8],by decide,rfl⟩ (Zf (Zr Tryz.underlying184 rfl Yl rfl (by exact ZH 5 (off:=0) (k:=3) rfl rfl) rfl)) ?_
    refine Zc 6 rfl rfl ⟨[0,1,2,3,4,5,6,7,8],by decide,rfl⟩ (Zf (Zr Tryz.underlying182 rfl Yq rfl (by exact ZH 7 (off:=0) (k:=2) rfl rfl) rfl)) ?_
    refine Zc 7 rfl rfl ⟨[0,1,2,3,4,5,6,7,8],by decide,rfl⟩ (Zf (ZT rfl (fun _=>Xk _ _ _ _ _ _ _))) ?_
    refine ZK 8 rfl (.inr ⟨[0,1,2,3,4,5,6,7,8],by decide,rfl⟩) (Xi 9 HV (v:=⟨⟨key,num+1,vs,bk,sl⟩,rv,cv⟩) Tryz.underlying135 Tryz.underlying3 rfl rfl rfl rfl rfl ?_)
    refine ZP (.inl (by kernel_rfl)) ?_
    refine Ze<|Zb<|Za<|gas rfl rfl<|gA<|Zu ?_
    have hw0:(Ya f (bk * 256+sl * 24) (packP key (num+1) vs)).2=0:=Decidable.byContradiction h97
    have hen2:EnOk ⟨key,num+1,vs,bk,sl⟩:=⟨hkey,hnum,hv16,hvs,(by have:=hroom.hbk; simp only; omega),hroom.hsl⟩
    refine ZW (.inl rfl) Tryz.results182 rfl (ZS (A:=[_,_,_,_,_,_]) (B:=[_,_,_,_,_,_,_,_,_,_]) (T:=T) [0,9,1,2,3,6] 10 (by decide) (by decide) rfl rfl) ?_
    exact .inr (.inr ⟨by omega,hnf,0,(Ya f (bk * 256+sl * 24) (packP key (num+1) vs)).1,WL ((key:Nat):Int) ⟨⟨key,num+1,vs,bk,sl⟩,rv,cv⟩ nb m,mnb ((key:Nat):Int) m nb,fb,num+1,id,He.row ⟨⟨key,num+1,vs,bk,sl⟩,rv,cv⟩::T,rfl,.inl ⟨⟨bk,sl,hroom,rfl,hw0.symm,.inr ⟨rfl,WH ⟨⟨key,num+1,vs,bk,sl⟩,rv,cv⟩ nb hms.key,rfl,rfl⟩⟩,rfl⟩,hms.put ⟨⟨key,num+1,vs,bk,sl⟩,rv,cv⟩ hen2 (fun y hy=>List.mem_cons_of_mem _ hy) List.mem_cons_self,(fun y hy=>List.mem_cons_of_mem _ hy),w1,by omega,by omega,rfl⟩)
   refine (ZU Yl rfl rfl (fun b13=>?_))
   refine ZK 7 rfl (.inr ⟨[1,2,3,4,5,6,7],by decide,rfl⟩) (ZJ rfl (vf:=[]) (vc:=[]) rfl rfl Tryz.call39 (fun w2 ho=>Wg vs a ca w2 (hsl.at ho) (by omega)) ?_)
   rintro _ _ ⟨rv,cv,rfl,rfl⟩
   refine Zc 8 rfl rfl ⟨[2,3,4,5,6,7,8],by decide,rfl⟩ (Zf (ZT rfl (fun _=>XN _ _ _ _ _))) ?_
   refine ZK 10 rfl (.inr ⟨[2,3,4,5,6,7,8],by decide,rfl⟩) (Zz 1 Yl rfl rfl rfl rfl rfl rfl (by rfl) ?_)
   refine ZP (.inl (by kernel_rfl)) ?_
   refine Ze<|Zb<|Zb ?_
   have hbkn:=hroom.hbk
   have hslt:=hroom.hsl
   have hplt:=WE (num:=num+1) (show key<65536 by omega) hvs hv16
   have hp24:=XO (key:=key) (num:=num+1) hv16
   obtain ⟨w1,w2,w3,w4,w5⟩:=Zab hf (o:=bk * 256+sl * 24) hplt (packP key (num+1) vs).length (by omega)
   rw [show XW f (bk * 256+sl * 24) (packP key (num+1) vs) (packP key (num+1) vs).length=Ya f (bk * 256+sl * 24) (packP key (num+1) vs) from rfl] at w1 w2 w3 w4 w5
   rw [hp24] at w2
   refine ZO [0,1,2,3,5] true 5 rfl<|Zc 0 rfl rfl ⟨[0,1,2,3,5],by decide,rfl⟩ (Zf (Zo rfl)) ?_
   refine Zc 1 rfl rfl ⟨[0,1,2,3,5],by decide,rfl⟩ (Zf (Zr Tryz.underlying182 rfl Yq rfl (by exact ZH 2 (off:=0) (k:=2) rfl rfl) rfl)) ?_
   refine Zc 2 rfl rfl ⟨[0,1,2,3,5],by decide,rfl⟩ (Zf (Zr Tryz.underlying184 rfl Yl rfl (by exact ZH 1 (off:=0) (k:=3) rfl rfl) rfl)) ?_
   refine ZK 3 rfl (.inr ⟨[0,1,2,3,5],by decide,rfl⟩) (ZJ rfl (vf:=[]) (vc:=[]) rfl rfl Tryz.call190 (fun w2 ho=>Vp ⟨⟨key,num+1,vs,bk,sl⟩,rv,cv⟩ ⟨hkey,hnum,hv16,hvs,(by simp only; omega),(by simp only; omega)⟩ (num+1) hnum w2 (ho.rowSl 0 rfl) (V6 (x:=⟨⟨key,num+1,vs,bk,sl⟩,rv,cv⟩) ho (List.mem_of_getElem? (i:=0) rfl))) ?_)
   rintro _ _ ⟨rr,cr,rfl,rfl⟩
   refine ZK 4 rfl (.inr ⟨[1,2,3,4,6],by decide,rfl⟩) (Yr [_,_,_,_,_,_,_,_,_,_] T [5,7,8,9] [0,1,2,3,4,6] 10 rfl rfl rfl (vf:=[]) (vc:=[]) rfl rfl Tryz.call189 (by decide) (by decide) rfl (fun w how hc=>Vo f hf bs bf (some gb) cb rp cp id bm num fb _ w hc (by omega) bk sl (by have:=hroom.hbk; omega) hroom.hsl (packP key (num+1) vs) hplt hp24 (some ⟨rr,0,none⟩) 24 (Za0 how 0 [5,7,8,9] rfl (by decide))) ?_)
   rintro _ _ ⟨rfl,rfl⟩
   refine Zc 5 rfl rfl ⟨[5,6,7,8,9],by decide,rfl⟩ (Zf (ZY rfl)) ?_
   refine ZP (.inr ⟨[5,6,7,8,9],by decide,rfl⟩) ?_
   refine Ze<|Zb<|Za<|gm rfl rfl<|gr rfl (Z4 rfl rfl) (Zw (fun h97=>?_) (fun h97=>?_))
   ·refine gA<|Zk rfl<|Zb<|Za<|gm rfl rfl<|gm rfl rfl<|Zt (Yr [_,_,_,_,_,_,_,_,_,_] T [0] [1,2,3,4,5,6,7,8,9] 10 rfl rfl rfl (vf:=[]) (vc:=[]) rfl rfl Tryz.call188 (by decide) (by decide) rfl (fun w how hc=>XU [] bs bf bm id num fb (Ya f (bk * 256+sl * 24) (packP key (num+1) vs)).2 _ w hc) ?_)
    rintro _ _ ⟨rfl,rfl⟩
    refine gas rfl rfl<|gA<|Zu<|Zh<|ZW (.inl rfl) Tryz.results182 rfl (ZS (A:=[_,_,_,_,_]) (B:=[_,_,_,_,_,_,_,_,_,_]) (T:=T) [0,9,1,2,3] 10 (by decide) (by decide) rfl rfl) ?_
    exact .inr (.inr ⟨by omega,hnf,(Ya f (bk * 256+sl * 24) (packP key (num+1) vs)).2,(Ya f (bk * 256+sl * 24) (packP key (num+1) vs)).1,m,nb,fb,num,VV (Ya f (bk * 256+sl * 24) (packP key (num+1) vs)).2 id,T,rfl,.inl ⟨⟨bk,sl,hroom,rfl,rfl,.inl ⟨h97,rfl,rfl,rfl⟩⟩,rfl⟩,hms,(fun _ h=>h),w1,by omega,by omega,rfl⟩)
   refine gA<|Zl rfl<|Zv<|Ze<|Zb<|Za<|gm rfl rfl<|gnc rfl rfl<|gr rfl (Zd rfl (YQ _))<|gr rfl (Zi Tryz.underlying136 rfl rfl (by exact Zp 0 rfl rfl)) ?_
   refine gr rfl (Wh (b:=1) rfl rfl (by omega)) ?_
   refine gnc rfl rfl<|gr rfl (Zd rfl (YQ _))<|Zt (Yc 0 Jm rfl rfl rfl rfl rfl (by rfl) (by rfl) ?_)
   refine gA<|Zb<|ZO [0,1,2,3,4,5,6,7,8] false 8 rfl<|Zc 0 rfl rfl ⟨[0,1,2,3,4,5,6,7,8],by decide,rfl⟩ (Zf (Zo rfl)) ?_
   refine Zc 1 rfl rfl ⟨[0,1,2,3,4,5,6,7,8],by decide,rfl⟩ (Zf (ZN rfl)) ?_
   refine Zc 2 rfl rfl ⟨[0,1,2,3,4,5,6,7,8],by decide,rfl⟩ (Zf (Zd rfl (YG _))) ?_
   refine Zc 3 rfl rfl ⟨[0,1,2,3,4,5,6,7,8],by decide,rfl⟩ (Zf (Zi Tryz.underlying135 rfl rfl (by exact Zp 0 rfl rfl))) ?_
   refine Zc 4 rfl rfl ⟨[0,1,2,3,4,5,6,7,8],by decide,rfl⟩ (Zf (Zo rfl)) ?_
   refine Zc 5 rfl rfl ⟨[0,1,2,3,4,5,6,7,8],by decide,rfl⟩ (Zf (Zr Tryz.underlying184 rfl Yl rfl (by exact ZH 6 (off:=0) (k:=3) rfl rfl) rfl)) ?_
   refine Zc 6 rfl rfl ⟨[0,1,2,3,4,5,6,7,8],by decide,rfl⟩ (Zf (Zr Tryz.underlying182 rfl Yq rfl (by exact ZH 7 (off:=0) (k:=2) rfl rfl) rfl)) ?_
   refine Zc 7 rfl rfl ⟨[0,1,2,3,4,5,6,7,8],by decide,rfl⟩ (Zf (ZT rfl (fun _=>Xk _ _ _ _ _ _ _))) ?_
   refine ZK 8 rfl (.inr ⟨[0,1,2,3,4,5,6,7,8],by decide,rfl⟩) (Xi 9 HV (v:=⟨⟨key,num+1,vs,bk,sl⟩,rv,cv⟩) Tryz.underlying135 Tryz.underlying3 rfl rfl rfl rfl rfl ?_)
   refine ZP (.inl (by kernel_rfl)) ?_
   refine Ze<|Zb<|Za<|gas rfl rfl<|gA<|Zu ?_
   have hw0:(Ya f (bk * 256+sl * 24) (packP key (num+1) vs)).2=0:=Decidable.byContradiction h97
   have hen2:EnOk ⟨key,num+1,vs,bk,sl⟩:=⟨hkey,hnum,hv16,hvs,(by have:=hroom.hbk; simp only; omega),hroom.hsl⟩
   refine ZW (.inl rfl) Tryz.results182 rfl (ZS (A:=[_,_,_,_,_,_]) (B:=[_,_,_,_,_,_,_,_,_,_]) (T:=T) [0,9,1,2,3,5] 10 (by decide) (by decide) rfl rfl) ?_
   exact .inr (.inr ⟨by omega,hnf,0,(Ya f (bk * 256+sl * 24) (packP key (num+1) vs)).1,WL ((key:Nat):Int) ⟨⟨key,num+1,vs,bk,sl⟩,rv,cv⟩ nb m,mnb ((key:Nat):Int) m nb,fb,num+1,id,He.row ⟨⟨key,num+1,vs,bk,sl⟩,rv,cv⟩::T,rfl,.inl ⟨⟨bk,sl,hroom,rfl,hw0.symm,.inr ⟨rfl,WH ⟨⟨key,num+1,vs,bk,sl⟩,rv,cv⟩ nb hms.key,rfl,rfl⟩⟩,rfl⟩,hms.put ⟨⟨key,num+1,vs,bk,sl⟩,rv,cv⟩ hen2 (fun y hy=>List.mem_cons_of_mem _ hy) List.mem_cons_self,(fun y hy=>List.mem_cons_of_mem _ hy),w1,by omega,by omega,rfl⟩)
  refine gm rfl rfl<|gr rfl (ZD rfl rfl)<|gr rfl (ZD rfl rfl)<|Zt (ZU Yq rfl rfl (fun b10=>?_))
  refine Zt (Zz 0 Yq rfl rfl rfl rfl rfl rfl (by rfl) ?_)
  refine gas rfl rfl<|gA<|Zb<|Zb<|Za<|gm rfl rfl<|gr rfl (rd_not rfl)<|gA<|Zk rfl<|Zb<|Zb<|Za<|gm rfl rfl<|Zt (Zcc [_,_,_,_,_,_,_] T [2,3,4,5,6] [0,1] 7 rfl rfl rfl (vf:=[]) (vc:=[]) rfl rfl Tryz.call187 (by decide) (by decide) rfl (fun w how hc=>Znb f hf bs bf (some gb) cb rp cp id bm num fb m nb T hms _ w hc hml hfb hbn (by omega) (by omega)) ?_)
  rintro _ _ ⟨e1,f1,m1,nb1,fb1,rfl,hcl,hm1,hf1,hl1,hp1,rfl⟩
  refine Jh [_,_,_,_,_] T [_,_]<|gas rfl rfl<|gA<|Zb<|Za<|gm rfl rfl<|gr rfl (Z4 rfl rfl) (Zw (fun h71=>?_) (fun h71=>?_))
  ·refine gA<|Zk rfl<|Zb<|Za<|gm rfl rfl<|gm rfl rfl<|Zt (Yr [_,_,_,_,_,_,_] T [0] [1,2,3,4,5,6] 7 rfl rfl rfl (vf:=[]) (vc:=[]) rfl rfl Tryz.call188 (by decide) (by decide) rfl (fun w how hc=>XU [] bs bf bm id num fb1 e1 _ w hc) ?_)
   rintro _ _ ⟨rfl,rfl⟩
   refine gas rfl rfl<|gA<|Zu<|Zh<|Zh<|ZW (.inl rfl) Tryz.results182 rfl (ZS (A:=[_,_,_,_,_]) (B:=[_,_,_,_,_,_,_]) (T:=T) [0,1,2,3,4] 7 (by decide) (by decide) rfl rfl) ?_
   exact .inr (.inr ⟨by omega,hnf,e1,f1,m1,nb1,fb1,num,VV e1 id,T,rfl,.inr ⟨hno,e1,f1,plain m1,fb1,hcl,.inl ⟨h71,rfl,rfl,rfl,rfl,rfl,rfl⟩⟩,hm1,(fun _ h=>h),hf1,hl1,by omega,rfl⟩)
  refine gA<|Zl rfl<|Zv<|Ze<|Zb<|Za<|gm rfl rfl<|Zt (ZJ rfl (vf:=[]) (vc:=[]) rfl rfl Tryz.call186 (fun w1 ho=>Zll (gb:=gb) (Zlg f1 hf1 bs bf gb cb rp cp id bm num fb1 w1 (ho.blkCells 0 rfl) (ho.blkCells 2 rfl) (ho.rowSl 3 rfl) (by omega))) ?_)
  rintro _ _ (⟨bk,sl,rfl,hroom,rfl⟩ | ⟨bk,sl,rfl,hno2,rfl⟩)
  ·refine gm rfl rfl<|gr rfl (ZD rfl rfl)<|gr rfl (ZD rfl rfl)<|Zt (Zz 5 Yq rfl rfl rfl rfl rfl rfl (by rfl) ?_)
   refine gas rfl rfl<|gA<|Zb<|Za<|gm rfl rfl<|gr rfl (rd_not rfl)<|gA<|Zl rfl<|Zv<|Ze<|Zb<|ZO [0,1,2,3,4,5,6] false 10 rfl<|Zc 0 rfl rfl ⟨[0,1,2,3,4,5,6],by decide,rfl⟩ (Zf (Zo rfl)) ?_
   refine Zc 1 rfl rfl ⟨[0,1,2,3,4,5,6],by decide,rfl⟩ (Zf (Zo rfl)) ?_
   refine Zc 2 rfl rfl ⟨[0,1,2,3,4,5,6],by decide,rfl⟩ (Zf (ZN rfl)) ?_
   refine Zc 3 rfl rfl ⟨[0,1,2,3,4,5,6],by decide,rfl⟩ (Zf (Zd rfl (YQ _))) ?_
   refine Zc 4 rfl rfl ⟨[0,1,2,3,4,5,6],by decide,rfl⟩ (Zf (Zi Tryz.underlying136 rfl rfl (by exact Zp 0 rfl rfl))) ?_
   refine Zc 5 rfl rfl ⟨[0,1,2,3,4,5,6],by decide,rfl⟩ (Zf (Wh (b:=1) rfl rfl (by omega))) ?_
   refine Zc 6 rfl rfl ⟨[0,1,2,3,4,5,6],by decide,rfl⟩ (Zf (Zo rfl)) ?_
   refine Zap 7 9 (Gv.bm 11 255) (Gv.bm 11 639) rfl rfl rfl rfl (by kernel_rfl) (by kernel_rfl) (by kernel_rfl) (.inr ⟨[0,1,2,3,4,5,6],by decide,rfl⟩) ?_ ?_
   ·refine (ZJ rfl (vf:=[]) (vc:=[]) rfl rfl Tryz.call39 (fun w2 ho=>Wg vs a ca w2 (hsl.at ho) (by omega)) ?_)
    rintro _ _ ⟨rv,cv,rfl,rfl⟩
    refine Zc 8 rfl rfl ⟨[1,2,3,4,5,6,7],by decide,rfl⟩ (Zf (ZT rfl (fun _=>XN _ _ _ _ _))) ?_
    refine ZK 9 rfl (.inr ⟨[1,2,3,4,5,6,7],by decide,rfl⟩) (ZU Yl rfl rfl (fun b13=>?_))
    refine ZK 10 rfl (.inr ⟨[2,3,4,5,6,7,8],by decide,rfl⟩) (Zz 0 Yl rfl rfl rfl rfl rfl rfl (by rfl) ?_)
    refine ZP (.inl (by kernel_rfl)) ?_
    refine Ze<|Zb<|Zb ?_
    have hbkn:=hroom.hbk
    have hslt:=hroom.hsl
    have hplt:=WE (num:=num+1) (show key<65536 by omega) hvs hv16
    have hp24:=XO (key:=key) (num:=num+1) hv16
    obtain ⟨w1,w2,w3,w4,w5⟩:=Zab hf1 (o:=bk * 256+sl * 24) hplt (packP key (num+1) vs).length (by omega)
    rw [show XW f1 (bk * 256+sl * 24) (packP key (num+1) vs) (packP key (num+1) vs).length=Ya f1 (bk * 256+sl * 24) (packP key (num+1) vs) from rfl] at w1 w2 w3 w4 w5
    rw [hp24] at w2
    refine ZO [0,1,3,7,8] true 5 rfl<|Zc 0 rfl rfl ⟨[0,1,3,7,8],by decide,rfl⟩ (Zf (Zo rfl)) ?_
    refine Zc 1 rfl rfl ⟨[0,1,3,7,8],by decide,rfl⟩ (Zf (Zr Tryz.underlying182 rfl Yq rfl (by exact ZH 3 (off:=0) (k:=2) rfl rfl) rfl)) ?_
    refine Zc 2 rfl rfl ⟨[0,1,3,7,8],by decide,rfl⟩ (Zf (Zr Tryz.underlying184 rfl Yl rfl (by exact ZH 0 (off:=0) (k:=3) rfl rfl) rfl)) ?_
    refine ZK 3 rfl (.inr ⟨[0,1,3,7,8],by decide,rfl⟩) (ZJ rfl (vf:=[]) (vc:=[]) rfl rfl Tryz.call190 (fun w2 ho=>Vp ⟨⟨key,num+1,vs,bk,sl⟩,rv,cv⟩ ⟨hkey,hnum,hv16,hvs,(by simp only; omega),(by simp only; omega)⟩ (num+1) hnum w2 (ho.rowSl 1 rfl) (V6 (x:=⟨⟨key,num+1,vs,bk,sl⟩,rv,cv⟩) ho (List.mem_of_getElem? (i:=1) rfl))) ?_)
    rintro _ _ ⟨rr,cr,rfl,rfl⟩
    refine ZK 4 rfl (.inr ⟨[1,2,4,8,9],by decide,rfl⟩) (Yr [_,_,_,_,_,_,_,_,_,_] T [3,5,6,7] [0,1,2,4,8,9] 10 rfl rfl rfl (vf:=[]) (vc:=[]) rfl rfl Tryz.call189 (by decide) (by decide) rfl (fun w how hc=>Vo f1 hf1 bs bf (some gb) cb rp cp id bm num fb1 _ w hc (by omega) bk sl (by have:=hroom.hbk; omega) hroom.hsl (packP key (num+1) vs) hplt hp24 (some ⟨rr,0,none⟩) 24 (Za0 how 0 [3,5,6,7] rfl (by decide))) ?_)
    rintro _ _ ⟨rfl,rfl⟩
    refine Zc 5 rfl rfl ⟨[5,6,7,8,9],by decide,rfl⟩ (Zf (ZY rfl)) ?_
    refine ZP (.inr ⟨[5,6,7,8,9],by decide,rfl⟩) ?_
    refine Ze<|Zb<|Za<|gm rfl rfl<|gr rfl (Z4 rfl rfl) (Zw (fun h97=>?_) (fun h97=>?_))
    ·refine gA<|Zk rfl<|Zb<|Za<|gm rfl rfl<|gm rfl rfl<|Zt (Yr [_,_,_,_,_,_,_,_,_,_] T [0] [1,2,3,4,5,6,7,8,9] 10 rfl rfl rfl (vf:=[]) (vc:=[]) rfl rfl Tryz.call188 (by decide) (by decide) rfl (fun w how hc=>XU [] bs bf bm id num fb1 (Ya f1 (bk * 256+sl * 24) (packP key (num+1) vs)).2 _ w hc) ?_)
     rintro _ _ ⟨rfl,rfl⟩
     refine gas rfl rfl<|gA<|Zu<|Zh<|ZW (.inl rfl) Tryz.results182 rfl (ZS (A:=[_,_,_,_,_]) (B:=[_,_,_,_,_,_,_,_,_,_]) (T:=T) [0,7,1,2,3] 10 (by decide) (by decide) rfl rfl) ?_
     exact .inr (.inr ⟨by omega,hnf,(Ya f1 (bk * 256+sl * 24) (packP key (num+1) vs)).2,(Ya f1 (bk * 256+sl * 24) (packP key (num+1) vs)).1,m1,nb1,fb1,num,VV (Ya f1 (bk * 256+sl * 24) (packP key (num+1) vs)).2 id,T,rfl,.inr ⟨hno,e1,f1,plain m1,fb1,hcl,.inr (.inr ⟨by omega,⟨bk,sl,hroom,rfl,rfl,.inl ⟨h97,rfl,rfl,rfl⟩⟩,rfl⟩)⟩,hm1,(fun _ h=>h),w1,by omega,by omega,rfl⟩)
    refine gA<|Zl rfl<|Zv<|Ze<|Zb<|Za<|gm rfl rfl<|gnc rfl rfl<|gr rfl (Zd rfl (YQ _))<|gr rfl (Zi Tryz.underlying136 rfl rfl (by exact Zp 0 rfl rfl)) ?_
    refine gr rfl (Wh (b:=1) rfl rfl (by omega)) ?_
    refine gnc rfl rfl<|gr rfl (Zd rfl (YQ _))<|Zt (Yc 0 Jm rfl rfl rfl rfl rfl (by rfl) (by rfl) ?_)
    refine gA<|Zb<|ZO [0,1,2,3,4,5,6,8,9] false 8 rfl<|Zc 0 rfl rfl ⟨[0,1,2,3,4,5,6,8,9],by decide,rfl⟩ (Zf (Zo rfl)) ?_
    refine Zc 1 rfl rfl ⟨[0,1,2,3,4,5,6,8,9],by decide,rfl⟩ (Zf (ZN rfl)) ?_
    refine Zc 2 rfl rfl ⟨[0,1,2,3,4,5,6,8,9],by decide,rfl⟩ (Zf (Zd rfl (YG _))) ?_
    refine Zc 3 rfl rfl ⟨[0,1,2,3,4,5,6,8,9],by decide,rfl⟩ (Zf (Zi Tryz.underlying135 rfl rfl (by exact Zp 0 rfl rfl))) ?_
    refine Zc 4 rfl rfl ⟨[0,1,2,3,4,5,6,8,9],by decide,rfl⟩ (Zf (Zo rfl)) ?_
    refine Zc 5 rfl rfl ⟨[0,1,2,3,4,5,6,8,9],by decide,rfl⟩ (Zf (Zr Tryz.underlying184 rfl Yl rfl (by exact ZH 5 (off:=0) (k:=3) rfl rfl) rfl)) ?_
    refine Zc 6 rfl rfl ⟨[0,1,2,3,4,5,6,8,9],by decide,rfl⟩ (Zf (Zr Tryz.underlying182 rfl Yq rfl (by exact ZH 7 (off:=0) (k:=2) rfl rfl) rfl)) ?_
    refine Zc 7 rfl rfl ⟨[0,1,2,3,4,5,6,8,9],by decide,rfl⟩ (Zf (ZT rfl (fun _=>Xk _ _ _ _ _ _ _))) ?_
    refine ZK 8 rfl (.inr ⟨[0,1,2,3,4,5,6,8,9],by decide,rfl⟩) (Xi 7 HV (v:=⟨⟨key,num+1,vs,bk,sl⟩,rv,cv⟩) Tryz.underlying135 Tryz.underlying3 rfl rfl rfl rfl rfl ?_)
    refine ZP (.inl (by kernel_rfl)) ?_
    refine Ze<|Zb<|Za<|gas rfl rfl<|gA<|Zu ?_
    have hw0:(Ya f1 (bk * 256+sl * 24) (packP key (num+1) vs)).2=0:=Decidable.byContradiction h97
    have hen2:EnOk ⟨key,num+1,vs,bk,sl⟩:=⟨hkey,hnum,hv16,hvs,(by have:=hroom.hbk; simp only; omega),hroom.hsl⟩
    refine ZW (.inl rfl) Tryz.results182 rfl (ZS (A:=[_,_,_,_,_,_]) (B:=[_,_,_,_,_,_,_,_,_,_]) (T:=T) [0,7,1,2,3,6] 10 (by decide) (by decide) rfl rfl) ?_
    exact .inr (.inr ⟨by omega,hnf,0,(Ya f1 (bk * 256+sl * 24) (packP key (num+1) vs)).1,WL ((key:Nat):Int) ⟨⟨key,num+1,vs,bk,sl⟩,rv,cv⟩ nb1 m1,mnb ((key:Nat):Int) m1 nb1,fb1,num+1,id,He.row ⟨⟨key,num+1,vs,bk,sl⟩,rv,cv⟩::T,rfl,.inr ⟨hno,e1,f1,plain m1,fb1,hcl,.inr (.inr ⟨by omega,⟨bk,sl,hroom,rfl,hw0.symm,.inr ⟨rfl,WH ⟨⟨key,num+1,vs,bk,sl⟩,rv,cv⟩ nb1 hm1.key,rfl,rfl⟩⟩,rfl⟩)⟩,hm1.put ⟨⟨key,num+1,vs,bk,sl⟩,rv,cv⟩ hen2 (fun y hy=>List.mem_cons_of_mem _ hy) List.mem_cons_self,(fun y hy=>List.mem_cons_of_mem _ hy),w1,by omega,by omega,rfl⟩)
   refine (ZU Yl rfl rfl (fun b13=>?_))
   refine ZK 7 rfl (.inr ⟨[1,2,3,4,5,6,7],by decide,rfl⟩) (ZJ rfl (vf:=[]) (vc:=[]) rfl rfl Tryz.call39 (fun w2 ho=>Wg vs a ca w2 (hsl.at ho) (by omega)) ?_)
   rintro _ _ ⟨rv,cv,rfl,rfl⟩
   refine Zc 8 rfl rfl ⟨[2,3,4,5,6,7,8],by decide,rfl⟩ (Zf (ZT rfl (fun _=>XN _ _ _ _ _))) ?_
   refine ZK 10 rfl (.inr ⟨[2,3,4,5,6,7,8],by decide,rfl⟩) (Zz 1 Yl rfl rfl rfl rfl rfl rfl (by rfl) ?_)
   refine ZP (.inl (by kernel_rfl)) ?_
   refine Ze<|Zb<|Zb ?_
   have hbkn:=hroom.hbk
   have hslt:=hroom.hsl
   have hplt:=WE (num:=num+1) (show key<65536 by omega) hvs hv16
   have hp24:=XO (key:=key) (num:=num+1) hv16
   obtain ⟨w1,w2,w3,w4,w5⟩:=Zab hf1 (o:=bk * 256+sl * 24) hplt (packP key (num+1) vs).length (by omega)
   rw [show XW f1 (bk * 256+sl * 24) (packP key (num+1) vs) (packP key (num+1) vs).length=Ya f1 (bk * 256+sl * 24) (packP key (num+1) vs) from rfl] at w1 w2 w3 w4 w5
   rw [hp24] at w2
   refine ZO [0,1,3,7,8] true 5 rfl<|Zc 0 rfl rfl ⟨[0,1,3,7,8],by decide,rfl⟩ (Zf (Zo rfl)) ?_
   refine Zc 1 rfl rfl ⟨[0,1,3,7,8],by decide,rfl⟩ (Zf (Zr Tryz.underlying182 rfl Yq rfl (by exact ZH 3 (off:=0) (k:=2) rfl rfl) rfl)) ?_
   refine Zc 2 rfl rfl ⟨[0,1,3,7,8],by decide,rfl⟩ (Zf (Zr Tryz.underlying184 rfl Yl rfl (by exact ZH 1 (off:=0) (k:=3) rfl rfl) rfl)) ?_
   refine ZK 3 rfl (.inr ⟨[0,1,3,7,8],by decide,rfl⟩) (ZJ rfl (vf:=[]) (vc:=[]) rfl rfl Tryz.call190 (fun w2 ho=>Vp ⟨⟨key,num+1,vs,bk,sl⟩,rv,cv⟩ ⟨hkey,hnum,hv16,hvs,(by simp only; omega),(by simp only; omega)⟩ (num+1) hnum w2 (ho.rowSl 0 rfl) (V6 (x:=⟨⟨key,num+1,vs,bk,sl⟩,rv,cv⟩) ho (List.mem_of_getElem? (i:=0) rfl))) ?_)
   rintro _ _ ⟨rr,cr,rfl,rfl⟩
   refine ZK 4 rfl (.inr ⟨[1,2,4,8,9],by decide,rfl⟩) (Yr [_,_,_,_,_,_,_,_,_,_] T [3,5,6,7] [0,1,2,4,8,9] 10 rfl rfl rfl (vf:=[]) (vc:=[]) rfl rfl Tryz.call189 (by decide) (by decide) rfl (fun w how hc=>Vo f1 hf1 bs bf (some gb) cb rp cp id bm num fb1 _ w hc (by omega) bk sl (by have:=hroom.hbk; omega) hroom.hsl (packP key (num+1) vs) hplt hp24 (some ⟨rr,0,none⟩) 24 (Za0 how 0 [3,5,6,7] rfl (by decide))) ?_)
   rintro _ _ ⟨rfl,rfl⟩
   refine Zc 5 rfl rfl ⟨[5,6,7,8,9],by decide,rfl⟩ (Zf (ZY rfl)) ?_
   refine ZP (.inr ⟨[5,6,7,8,9],by decide,rfl⟩) ?_
   refine Ze<|Zb<|Za<|gm rfl rfl<|gr rfl (Z4 rfl rfl) (Zw (fun h97=>?_) (fun h97=>?_))
   ·refine gA<|Zk rfl<|Zb<|Za<|gm rfl rfl<|gm rfl rfl<|Zt (Yr [_,_,_,_,_,_,_,_,_,_] T [0] [1,2,3,4,5,6,7,8,9] 10 rfl rfl rfl (vf:=[]) (vc:=[]) rfl rfl Tryz.call188 (by decide) (by decide) rfl (fun w how hc=>XU [] bs bf bm id num fb1 (Ya f1 (bk * 256+sl * 24) (packP key (num+1) vs)).2 _ w hc) ?_)
    rintro _ _ ⟨rfl,rfl⟩
    refine gas rfl rfl<|gA<|Zu<|Zh<|ZW (.inl rfl) Tryz.results182 rfl (ZS (A:=[_,_,_,_,_]) (B:=[_,_,_,_,_,_,_,_,_,_]) (T:=T) [0,7,1,2,3] 10 (by decide) (by decide) rfl rfl) ?_
    exact .inr (.inr ⟨by omega,hnf,(Ya f1 (bk * 256+sl * 24) (packP key (num+1) vs)).2,(Ya f1 (bk * 256+sl * 24) (packP key (num+1) vs)).1,m1,nb1,fb1,num,VV (Ya f1 (bk * 256+sl * 24) (packP key (num+1) vs)).2 id,T,rfl,.inr ⟨hno,e1,f1,plain m1,fb1,hcl,.inr (.inr ⟨by omega,⟨bk,sl,hroom,rfl,rfl,.inl ⟨h97,rfl,rfl,rfl⟩⟩,rfl⟩)⟩,hm1,(fun _ h=>h),w1,by omega,by omega,rfl⟩)
   refine gA<|Zl rfl<|Zv<|Ze<|Zb<|Za<|gm rfl rfl<|gnc rfl rfl<|gr rfl (Zd rfl (YQ _))<|gr rfl (Zi Tryz.underlying136 rfl rfl (by exact Zp 0 rfl rfl)) ?_
   refine gr rfl (Wh (b:=1) rfl rfl (by omega)) ?_
   refine gnc rfl rfl<|gr rfl (Zd rfl (YQ _))<|Zt (Yc 0 Jm rfl rfl rfl rfl rfl (by rfl) (by rfl) ?_)
   refine gA<|Zb<|ZO [0,1,2,3,4,5,6,8,9] false 8 rfl<|Zc 0 rfl rfl ⟨[0,1,2,3,4,5,6,8,9],by decide,rfl⟩ (Zf (Zo rfl)) ?_
   refine Zc 1 rfl rfl ⟨[0,1,2,3,4,5,6,8,9],by decide,rfl⟩ (Zf (ZN rfl)) ?_
   refine Zc 2 rfl rfl ⟨[0,1,2,3,4,5,6,8,9],by decide,rfl⟩ (Zf (Zd rfl (YG _))) ?_
   refine Zc 3 rfl rfl ⟨[0,1,2,3,4,5,6,8,9],by decide,rfl⟩ (Zf (Zi Tryz.underlying135 rfl rfl (by exact Zp 0 rfl rfl))) ?_
   refine Zc 4 rfl rfl ⟨[0,1,2,3,4,5,6,8,9],by decide,rfl⟩ (Zf (Zo rfl)) ?_
   refine Zc 5 rfl rfl ⟨[0,1,2,3,4,5,6,8,9],by decide,rfl⟩ (Zf (Zr Tryz.underlying184 rfl Yl rfl (by exact ZH 6 (off:=0) (k:=3) rfl rfl) rfl)) ?_
   refine Zc 6 rfl rfl ⟨[0,1,2,3,4,5,6,8,9],by decide,rfl⟩ (Zf (Zr Tryz.underlying182 rfl Yq rfl (by exact ZH 7 (off:=0) (k:=2) rfl rfl) rfl)) ?_
   refine Zc 7 rfl rfl ⟨[0,1,2,3,4,5,6,8,9],by decide,rfl⟩ (Zf (ZT rfl (fun _=>Xk _ _ _ _ _ _ _))) ?_
   refine ZK 8 rfl (.inr ⟨[0,1,2,3,4,5,6,8,9],by decide,rfl⟩) (Xi 7 HV (v:=⟨⟨key,num+1,vs,bk,sl⟩,rv,cv⟩) Tryz.underlying135 Tryz.underlying3 rfl rfl rfl rfl rfl ?_)
   refine ZP (.inl (by kernel_rfl)) ?_
   refine Ze<|Zb<|Za<|gas rfl rfl<|gA<|Zu ?_
   have hw0:(Ya f1 (bk * 256+sl * 24) (packP key (num+1) vs)).2=0:=Decidable.byContradiction h97
   have hen2:EnOk ⟨key,num+1,vs,bk,sl⟩:=⟨hkey,hnum,hv16,hvs,(by have:=hroom.hbk; simp only; omega),hroom.hsl⟩
   refine ZW (.inl rfl) Tryz.results182 rfl (ZS (A:=[_,_,_,_,_,_]) (B:=[_,_,_,_,_,_,_,_,_,_]) (T:=T) [0,7,1,2,3,5] 10 (by decide) (by decide) rfl rfl) ?_
   exact .inr (.inr ⟨by omega,hnf,0,(Ya f1 (bk * 256+sl * 24) (packP key (num+1) vs)).1,WL ((key:Nat):Int) ⟨⟨key,num+1,vs,bk,sl⟩,rv,cv⟩ nb1 m1,mnb ((key:Nat):Int) m1 nb1,fb1,num+1,id,He.row ⟨⟨key,num+1,vs,bk,sl⟩,rv,cv⟩::T,rfl,.inr ⟨hno,e1,f1,plain m1,fb1,hcl,.inr (.inr ⟨by omega,⟨bk,sl,hroom,rfl,hw0.symm,.inr ⟨rfl,WH ⟨⟨key,num+1,vs,bk,sl⟩,rv,cv⟩ nb1 hm1.key,rfl,rfl⟩⟩,rfl⟩)⟩,hm1.put ⟨⟨key,num+1,vs,bk,sl⟩,rv,cv⟩ hen2 (fun y hy=>List.mem_cons_of_mem _ hy) List.mem_cons_self,(fun y hy=>List.mem_cons_of_mem _ hy),w1,by omega,by omega,rfl⟩)
  refine gm rfl rfl<|gr rfl (ZD rfl rfl)<|gr rfl (ZD rfl rfl)<|Zt (Zz 5 Yq rfl rfl rfl rfl rfl rfl (by rfl) ?_)
  refine gas rfl rfl<|gA<|Zb<|Za<|gm rfl rfl<|gr rfl (rd_not rfl)<|gA<|Zk rfl<|Zb<|Za<|gas rfl rfl<|gA<|Zu<|Zh<|ZW (.inl rfl) Tryz.results182 rfl (ZS (A:=[_,_,_,_,_]) (B:=[_,_,_,_,_,_,_]) (T:=T) [0,1,2,3,4] 7 (by decide) (by decide) rfl rfl) ?_
  exact .inr (.inr ⟨by omega,hnf,6,f1,m1,nb1,fb1,num,id,T,rfl,.inr ⟨hno,e1,f1,plain m1,fb1,hcl,.inr (.inl ⟨by omega,hno2,rfl,rfl,rfl,rfl,rfl,rfl⟩)⟩,hm1,(fun _ h=>h),hf1,hl1,by omega,rfl⟩)
 refine Za<|gm rfl rfl<|gnc rfl rfl<|gr rfl (Zd rfl (YG _))<|gr rfl (Zi Tryz.underlying135 rfl rfl (by exact Zp 0 rfl rfl)) ?_
 refine gm rfl rfl<|gr rfl (XK 1 HV rfl Tryz.underlying135 Tryz.underlying3 Y3 rfl rfl)<|gm rfl rfl<|gr rfl (ZD rfl rfl)<|gr rfl (ZD rfl rfl)<|Zt (ZU Y3 rfl rfl (fun b8=>?_))
 rw [hg,Option.map_some,Option.getD_some,Option.isSome_some]
 refine Zt (Zz 0 Y3 rfl rfl rfl rfl rfl rfl (by rfl) ?_)
 refine gas rfl rfl<|gA<|Zb<|Za<|gm rfl rfl<|gr rfl (rd_not rfl)<|gm rfl rfl<|Zj rfl rfl rfl<|Zj rfl rfl rfl<|Zj rfl rfl rfl<|Zj rfl rfl rfl<|Zj rfl rfl rfl<|Zj rfl rfl rfl<|Zj rfl rfl rfl<|Zj rfl rfl rfl<|gr rfl (Zn rfl rfl)<|gA<|Zl rfl<|Zv<|Ze<|Zb ?_
 have hnf:¬ Full (plain m) (f.b.length / 256) key:=fun ⟨h1,h2⟩=>by
  rw [(hms.get hg).2.2.2] at h1; cases h1
 refine Za<|gm rfl rfl<|Zt (ZJ rfl (vf:=[]) (vc:=[]) rfl rfl Tryz.call186 (fun w1 ho=>Zll (gb:=gb) (Zlg f hf bs bf gb cb rp cp id bm num fb w1 (ho.blkCells 1 rfl) (ho.blkCells 3 rfl) (ho.rowSl 4 rfl) (by omega))) ?_)
 rintro _ _ (⟨bk,sl,rfl,hroom,rfl⟩ | ⟨bk,sl,rfl,hno,rfl⟩)
 ·refine gm rfl rfl<|gr rfl (ZD rfl rfl)<|gr rfl (ZD rfl rfl)<|Zt (ZU Yq rfl rfl (fun b10=>?_))
  refine Zt (Zz 0 Yq rfl rfl rfl rfl rfl rfl (by rfl) ?_)
  refine gas rfl rfl<|gA<|Zb<|Zb<|Za<|gm rfl rfl<|gr rfl (rd_not rfl)<|gA<|Zl rfl<|Zv<|Ze<|Zb<|ZO [0,1,2,3,4,5,6] false 10 rfl<|Zc 0 rfl rfl ⟨[0,1,2,3,4,5,6],by decide,rfl⟩ (Zf (Zo rfl)) ?_
  refine Zc 1 rfl rfl ⟨[0,1,2,3,4,5,6],by decide,rfl⟩ (Zf (Zo rfl)) ?_
  refine Zc 2 rfl rfl ⟨[0,1,2,3,4,5,6],by decide,rfl⟩ (Zf (ZN rfl)) ?_
  refine Zc 3 rfl rfl ⟨[0,1,2,3,4,5,6],by decide,rfl⟩ (Zf (Zd rfl (YQ _))) ?_
  refine Zc 4 rfl rfl ⟨[0,1,2,3,4,5,6],by decide,rfl⟩ (Zf (Zi Tryz.underlying136 rfl rfl (by exact Zp 2 rfl rfl))) ?_
  refine Zc 5 rfl rfl ⟨[0,1,2,3,4,5,6],by decide,rfl⟩ (Zf (Wh (b:=1) rfl rfl (by omega))) ?_
  refine Zc 6 rfl rfl ⟨[0,1,2,3,4,5,6],by decide,rfl⟩ (Zf (Zo rfl)) ?_
  refine Zap 7 9 (Gv.bm 11 255) (Gv.bm 11 639) rfl rfl rfl rfl (by kernel_rfl) (by kernel_rfl) (by kernel_rfl) (.inr ⟨[0,1,2,3,4,5,6],by decide,rfl⟩) ?_ ?_
  ·refine (ZJ rfl (vf:=[]) (vc:=[]) rfl rfl Tryz.call39 (fun w2 ho=>Wg vs a ca w2 (hsl.at ho) (by omega)) ?_)
   rintro _ _ ⟨rv,cv,rfl,rfl⟩
   refine Zc 8 rfl rfl ⟨[1,2,3,4,5,6,7],by decide,rfl⟩ (Zf (ZT rfl (fun _=>XN _ _ _ _ _))) ?_
   refine ZK 9 rfl (.inr ⟨[1,2,3,4,5,6,7],by decide,rfl⟩) (ZU Yl rfl rfl (fun b13=>?_))
   refine ZK 10 rfl (.inr ⟨[2,3,4,5,6,7,8],by decide,rfl⟩) (Zz 0 Yl rfl rfl rfl rfl rfl rfl (by rfl) ?_)
   refine ZP (.inl (by kernel_rfl)) ?_
   refine Ze<|Zb<|Zb ?_
   have hbkn:=hroom.hbk
   have hslt:=hroom.hsl
   have hplt:=WE (num:=num+1) (show key<65536 by omega) hvs hv16
   have hp24:=XO (key:=key) (num:=num+1) hv16
   obtain ⟨w1,w2,w3,w4,w5⟩:=Zab hf (o:=bk * 256+sl * 24) hplt (packP key (num+1) vs).length (by omega)
   rw [show XW f (bk * 256+sl * 24) (packP key (num+1) vs) (packP key (num+1) vs).length=Ya f (bk * 256+sl * 24) (packP key (num+1) vs) from rfl] at w1 w2 w3 w4 w5
   rw [hp24] at w2
   refine ZO [0,1,2,3,5] true 5 rfl<|Zc 0 rfl rfl ⟨[0,1,2,3,5],by decide,rfl⟩ (Zf (Zo rfl)) ?_
   refine Zc 1 rfl rfl ⟨[0,1,2,3,5],by decide,rfl⟩ (Zf (Zr Tryz.underlying182 rfl Yq rfl (by exact ZH 2 (off:=0) (k:=2) rfl rfl) rfl)) ?_
   refine Zc 2 rfl rfl ⟨[0,1,2,3,5],by decide,rfl⟩ (Zf (Zr Tryz.underlying184 rfl Yl rfl (by exact ZH 0 (off:=0) (k:=3) rfl rfl) rfl)) ?_
   refine ZK 3 rfl (.inr ⟨[0,1,2,3,5],by decide,rfl⟩) (ZJ rfl (vf:=[]) (vc:=[]) rfl rfl Tryz.call190 (fun w2 ho=>Vp ⟨⟨key,num+1,vs,bk,sl⟩,rv,cv⟩ ⟨hkey,hnum,hv16,hvs,(by simp only; omega),(by simp only; omega)⟩ (num+1) hnum w2 (ho.rowSl 1 rfl) (V6 (x:=⟨⟨key,num+1,vs,bk,sl⟩,rv,cv⟩) ho (List.mem_of_getElem? (i:=1) rfl))) ?_)
   rintro _ _ ⟨rr,cr,rfl,rfl⟩
   refine ZK 4 rfl (.inr ⟨[1,2,3,4,6],by decide,rfl⟩) (Yr [_,_,_,_,_,_,_,_,_,_] T [5,7,8,9] [0,1,2,3,4,6] 10 rfl rfl rfl (vf:=[]) (vc:=[]) rfl rfl Tryz.call189 (by decide) (by decide) rfl (fun w how hc=>Vo f hf bs bf (some gb) cb rp cp id bm num fb _ w hc (by omega) bk sl (by have:=hroom.hbk; omega) hroom.hsl (packP key (num+1) vs) hplt hp24 (some ⟨rr,0,none⟩) 24 (Za0 how 0 [5,7,8,9] rfl (by decide))) ?_)
   rintro _ _ ⟨rfl,rfl⟩
   refine Zc 5 rfl rfl ⟨[5,6,7,8,9],by decide,rfl⟩ (Zf (ZY rfl)) ?_
   refine ZP (.inr ⟨[5,6,7,8,9],by decide,rfl⟩) ?_
   refine Ze<|Zb<|Za<|gm rfl rfl<|gr rfl (Z4 rfl rfl) (Zw (fun h97=>?_) (fun h97=>?_))
   ·refine gA<|Zk rfl<|Zb<|Za<|gm rfl rfl<|gm rfl rfl<|Zt (Yr [_,_,_,_,_,_,_,_,_,_] T [0] [1,2,3,4,5,6,7,8,9] 10 rfl rfl rfl (vf:=[]) (vc:=[]) rfl rfl Tryz.call188 (by decide) (by decide) rfl (fun w how hc=>XU [] bs bf bm id num fb (Ya f (bk * 256+sl * 24) (packP key (num+1) vs)).2 _ w hc) ?_)
    rintro _ _ ⟨rfl,rfl⟩
    refine gas rfl rfl<|gA<|Zu<|Zh<|ZW (.inl rfl) Tryz.results182 rfl (ZS (A:=[_,_,_,_,_]) (B:=[_,_,_,_,_,_,_,_,_,_]) (T:=T) [0,9,1,2,3] 10 (by decide) (by decide) rfl rfl) ?_
    exact .inr (.inr ⟨by omega,hnf,(Ya f (bk * 256+sl * 24) (packP key (num+1) vs)).2,(Ya f (bk * 256+sl * 24) (packP key (num+1) vs)).1,m,nb,fb,num,VV (Ya f (bk * 256+sl * 24) (packP key (num+1) vs)).2 id,T,rfl,.inl ⟨⟨bk,sl,hroom,rfl,rfl,.inl ⟨h97,rfl,rfl,rfl⟩⟩,rfl⟩,hms,(fun _ h=>h),w1,by omega,by omega,rfl⟩)
   refine gA<|Zl rfl<|Zv<|Ze<|Zb<|Za<|gm rfl rfl<|gnc rfl rfl<|gr rfl (Zd rfl (YQ _))<|gr rfl (Zi Tryz.underlying136 rfl rfl (by exact Zp 0 rfl rfl)) ?_
   refine gr rfl (Wh (b:=1) rfl rfl (by omega)) ?_
   refine gnc rfl rfl<|gr rfl (Zd rfl (YQ _))<|Zt (Yc 0 Jm rfl rfl rfl rfl rfl (by rfl) (by rfl) ?_)
   refine gA<|Zb<|ZO [0,1,2,3,4,5,6,7,8] false 8 rfl<|Zc 0 rfl rfl ⟨[0,1,2,3,4,5,6,7,8],by decide,rfl⟩ (Zf (Zo rfl)) ?_
   refine Zc 1 rfl rfl ⟨[0,1,2,3,4,5,6,7,8],by decide,rfl⟩ (Zf (ZN rfl)) ?_
   refine Zc 2 rfl rfl ⟨[0,1,2,3,4,5,6,7,8],by decide,rfl⟩ (Zf (Zd rfl (YG _))) ?_
   refine Zc 3 rfl rfl ⟨[0,1,2,3,4,5,6,7,8],by decide,rfl⟩ (Zf (Zi Tryz.underlying135 rfl rfl (by exact Zp 0 rfl rfl))) ?_
   refine Zc 4 rfl rfl ⟨[0,1,2,3,4,5,6,7,8],by decide,rfl⟩ (Zf (Zo rfl)) ?_
   refine Zc 5 rfl rfl ⟨[0,1,2,3,4,5,6,7,8],by decide,rfl⟩ (Zf (Zr Tryz.underlying184 rfl Yl rfl (by exact ZH 5 (off:=0) (k:=3) rfl rfl) rfl)) ?_
   refine Zc 6 rfl rfl ⟨[0,1,2,3,4,5,6,7,8],by decide,rfl⟩ (Zf (Zr Tryz.underlying182 rfl Yq rfl (by exact ZH 7 (off:=0) (k:=2) rfl rfl) rfl)) ?_
   refine Zc 7 rfl rfl ⟨[0,1,2,3,4,5,6,7,8],by decide,rfl⟩ (Zf (ZT rfl (fun _=>Xk _ _ _ _ _ _ _))) ?_
   refine ZK 8 rfl (.inr ⟨[0,1,2,3,4,5,6,7,8],by decide,rfl⟩) (Xi 9 HV (v:=⟨⟨key,num+1,vs,bk,sl⟩,rv,cv⟩) Tryz.underlying135 Tryz.underlying3 rfl rfl rfl rfl rfl ?_)
   refine ZP (.inl (by kernel_rfl)) ?_
   refine Ze<|Zb<|Za<|gas rfl rfl<|gA<|Zu ?_
   have hw0:(Ya f (bk * 256+sl * 24) (packP key (num+1) vs)).2=0:=Decidable.byContradiction h97
   have hen2:EnOk ⟨key,num+1,vs,bk,sl⟩:=⟨hkey,hnum,hv16,hvs,(by have:=hroom.hbk; simp only; omega),hroom.hsl⟩
   refine ZW (.inl rfl) Tryz.results182 rfl (ZS (A:=[_,_,_,_,_,_]) (B:=[_,_,_,_,_,_,_,_,_,_]) (T:=T) [0,9,1,2,3,6] 10 (by decide) (by decide) rfl rfl) ?_
   exact .inr (.inr ⟨by omega,hnf,0,(Ya f (bk * 256+sl * 24) (packP key (num+1) vs)).1,WL ((key:Nat):Int) ⟨⟨key,num+1,vs,bk,sl⟩,rv,cv⟩ nb m,mnb ((key:Nat):Int) m nb,fb,num+1,id,He.row ⟨⟨key,num+1,vs,bk,sl⟩,rv,cv⟩::T,rfl,.inl ⟨⟨bk,sl,hroom,rfl,hw0.symm,.inr ⟨rfl,WH ⟨⟨key,num+1,vs,bk,sl⟩,rv,cv⟩ nb hms.key,rfl,rfl⟩⟩,rfl⟩,hms.put ⟨⟨key,num+1,vs,bk,sl⟩,rv,cv⟩ hen2 (fun y hy=>List.mem_cons_of_mem _ hy) List.mem_cons_self,(fun y hy=>List.mem_cons_of_mem _ hy),w1,by omega,by omega,rfl⟩)
  refine (ZU Yl rfl rfl (fun b13=>?_))
  refine ZK 7 rfl (.inr ⟨[1,2,3,4,5,6,7],by decide,rfl⟩) (ZJ rfl (vf:=[]) (vc:=[]) rfl rfl Tryz.call39 (fun w2 ho=>Wg vs a ca w2 (hsl.at ho) (by omega)) ?_)
  rintro _ _ ⟨rv,cv,rfl,rfl⟩
  refine Zc 8 rfl rfl ⟨[2,3,4,5,6,7,8],by decide,rfl⟩ (Zf (ZT rfl (fun _=>XN _ _ _ _ _))) ?_
  refine ZK 10 rfl (.inr ⟨[2,3,4,5,6,7,8],by decide,rfl⟩) (Zz 1 Yl rfl rfl rfl rfl rfl rfl (by rfl) ?_)
  refine ZP (.inl (by kernel_rfl)) ?_
  refine Ze<|Zb<|Zb ?_
  have hbkn:=hroom.hbk
  have hslt:=hroom.hsl
  have hplt:=WE (num:=num+1) (show key<65536 by omega) hvs hv16
  have hp24:=XO (key:=key) (num:=num+1) hv16
  obtain ⟨w1,w2,w3,w4,w5⟩:=Zab hf (o:=bk * 256+sl * 24) hplt (packP key (num+1) vs).length (by omega)
  rw [show XW f (bk * 256+sl * 24) (packP key (num+1) vs) (packP key (num+1) vs).length=Ya f (bk * 256+sl * 24) (packP key (num+1) vs) from rfl] at w1 w2 w3 w4 w5
  rw [hp24] at w2
  refine ZO [0,1,2,3,5] true 5 rfl<|Zc 0 rfl rfl ⟨[0,1,2,3,5],by decide,rfl⟩ (Zf (Zo rfl)) ?_
  refine Zc 1 rfl rfl ⟨[0,1,2,3,5],by decide,rfl⟩ (Zf (Zr Tryz.underlying182 rfl Yq rfl (by exact ZH 2 (off:=0) (k:=2) rfl rfl) rfl)) ?_
  refine Zc 2 rfl rfl ⟨[0,1,2,3,5],by decide,rfl⟩ (Zf (Zr Tryz.underlying184 rfl Yl rfl (by exact ZH 1 (off:=0) (k:=3) rfl rfl) rfl)) ?_
  refine ZK 3 rfl (.inr ⟨[0,1,2,3,5],by decide,rfl⟩) (ZJ rfl (vf:=[]) (vc:=[]) rfl rfl Tryz.call190 (fun w2 ho=>Vp ⟨⟨key,num+1,vs,bk,sl⟩,rv,cv⟩ ⟨hkey,hnum,hv16,hvs,(by simp only; omega),(by simp only; omega)⟩ (num+1) hnum w2 (ho.rowSl 0 rfl) (V6 (x:=⟨⟨key,num+1,vs,bk,sl⟩,rv,cv⟩) ho (List.mem_of_getElem? (i:=0) rfl))) ?_)
  rintro _ _ ⟨rr,cr,rfl,rfl⟩
  refine ZK 4 rfl (.inr ⟨[1,2,3,4,6],by decide,rfl⟩) (Yr [_,_,_,_,_,_,_,_,_,_] T [5,7,8,9] [0,1,2,3,4,6] 10 rfl rfl rfl (vf:=[]) (vc:=[]) rfl rfl Tryz.call189 (by decide) (by decide) rfl (fun w how hc=>Vo f hf bs bf (some gb) cb rp cp id bm num fb _ w hc (by omega) bk sl (by have:=hroom.hbk; omega) hroom.hsl (packP key (num+1) vs) hplt hp24 (some ⟨rr,0,none⟩) 24 (Za0 how 0 [5,7,8,9] rfl (by decide))) ?_)
  rintro _ _ ⟨rfl,rfl⟩
  refine Zc 5 rfl rfl ⟨[5,6,7,8,9],by decide,rfl⟩ (Zf (ZY rfl)) ?_
  refine ZP (.inr ⟨[5,6,7,8,9],by decide,rfl⟩) ?_
  refine Ze<|Zb<|Za<|gm rfl rfl<|gr rfl (Z4 rfl rfl) (Zw (fun h97=>?_) (fun h97=>?_))
  ·refine gA<|Zk rfl<|Zb<|Za<|gm rfl rfl<|gm rfl rfl<|Zt (Yr [_,_,_,_,_,_,_,_,_,_] T [0] [1,2,3,4,5,6,7,8,9] 10 rfl rfl rfl (vf:=[]) (vc:=[]) rfl rfl Tryz.call188 (by decide) (by decide) rfl (fun w how hc=>XU [] bs bf bm id num fb (Ya f (bk * 256+sl * 24) (packP key (num+1) vs)).2 _ w hc) ?_)
   rintro _ _ ⟨rfl,rfl⟩
   refine gas rfl rfl<|gA<|Zu<|Zh<|ZW (.inl rfl) Tryz.results182 rfl (ZS (A:=[_,_,_,_,_]) (B:=[_,_,_,_,_,_,_,_,_,_]) (T:=T) [0,9,1,2,3] 10 (by decide) (by decide) rfl rfl) ?_
   exact .inr (.inr ⟨by omega,hnf,(Ya f (bk * 256+sl * 24) (packP key (num+1) vs)).2,(Ya f (bk * 256+sl * 24) (packP key (num+1) vs)).1,m,nb,fb,num,VV (Ya f (bk * 256+sl * 24) (packP key (num+1) vs)).2 id,T,rfl,.inl ⟨⟨bk,sl,hroom,rfl,rfl,.inl ⟨h97,rfl,rfl,rfl⟩⟩,rfl⟩,hms,(fun _ h=>h),w1,by omega,by omega,rfl⟩)
  refine gA<|Zl rfl<|Zv<|Ze<|Zb<|Za<|gm rfl rfl<|gnc rfl rfl<|gr rfl (Zd rfl (YQ _))<|gr rfl (Zi Tryz.underlying136 rfl rfl (by exact Zp 0 rfl rfl)) ?_
  refine gr rfl (Wh (b:=1) rfl rfl (by omega)) ?_
  refine gnc rfl rfl<|gr rfl (Zd rfl (YQ _))<|Zt (Yc 0 Jm rfl rfl rfl rfl rfl (by rfl) (by rfl) ?_)
  refine gA<|Zb<|ZO [0,1,2,3,4,5,6,7,8] false 8 rfl<|Zc 0 rfl rfl ⟨[0,1,2,3,4,5,6,7,8],by decide,rfl⟩ (Zf (Zo rfl)) ?_
  refine Zc 1 rfl rfl ⟨[0,1,2,3,4,5,6,7,8],by decide,rfl⟩ (Zf (ZN rfl)) ?_
  refine Zc 2 rfl rfl ⟨[0,1,2,3,4,5,6,7,8],by decide,rfl⟩ (Zf (Zd rfl (YG _))) ?_
  refine Zc 3 rfl rfl ⟨[0,1,2,3,4,5,6,7,8],by decide,rfl⟩ (Zf (Zi Tryz.underlying135 rfl rfl (by exact Zp 0 rfl rfl))) ?_
  refine Zc 4 rfl rfl ⟨[0,1,2,3,4,5,6,7,8],by decide,rfl⟩ (Zf (Zo rfl)) ?_
  refine Zc 5 rfl rfl ⟨[0,1,2,3,4,5,6,7,8],by decide,rfl⟩ (Zf (Zr Tryz.underlying184 rfl Yl rfl (by exact ZH 6 (off:=0) (k:=3) rfl rfl) rfl)) ?_
  refine Zc 6 rfl rfl ⟨[0,1,2,3,4,5,6,7,8],by decide,rfl⟩ (Zf (Zr Tryz.underlying182 rfl Yq rfl (by exact ZH 7 (off:=0) (k:=2) rfl rfl) rfl)) ?_
  refine Zc 7 rfl rfl ⟨[0,1,2,3,4,5,6,7,8],by decide,rfl⟩ (Zf (ZT rfl (fun _=>Xk _ _ _ _ _ _ _))) ?_
  refine ZK 8 rfl (.inr ⟨[0,1,2,3,4,5,6,7,8],by decide,rfl⟩) (Xi 9 HV (v:=⟨⟨key,num+1,vs,bk,sl⟩,rv,cv⟩) Tryz.underlying135 Tryz.underlying3 rfl rfl rfl rfl rfl ?_)
  refine ZP (.inl (by kernel_rfl)) ?_
  refine Ze<|Zb<|Za<|gas rfl rfl<|gA<|Zu ?_
  have hw0:(Ya f (bk * 256+sl * 24) (packP key (num+1) vs)).2=0:=Decidable.byContradiction h97
  have hen2:EnOk ⟨key,num+1,vs,bk,sl⟩:=⟨hkey,hnum,hv16,hvs,(by have:=hroom.hbk; simp only; omega),hroom.hsl⟩
  refine ZW (.inl rfl) Tryz.results182 rfl (ZS (A:=[_,_,_,_,_,_]) (B:=[_,_,_,_,_,_,_,_,_,_]) (T:=T) [0,9,1,2,3,5] 10 (by decide) (by decide) rfl rfl) ?_
  exact .inr (.inr ⟨by omega,hnf,0,(Ya f (bk * 256+sl * 24) (packP key (num+1) vs)).1,WL ((key:Nat):Int) ⟨⟨key,num+1,vs,bk,sl⟩,rv,cv⟩ nb m,mnb ((key:Nat):Int) m nb,fb,num+1,id,He.row ⟨⟨key,num+1,vs,bk,sl⟩,rv,cv⟩::T,rfl,.inl ⟨⟨bk,sl,hroom,rfl,hw0.symm,.inr ⟨rfl,WH ⟨⟨key,num+1,vs,bk,sl⟩,rv,cv⟩ nb hms.key,rfl,rfl⟩⟩,rfl⟩,hms.put ⟨⟨key,num+1,vs,bk,sl⟩,rv,cv⟩ hen2 (fun y hy=>List.mem_cons_of_mem _ hy) List.mem_cons_self,(fun y hy=>List.mem_cons_of_mem _ hy),w1,by omega,by omega,rfl⟩)
 refine gm rfl rfl<|gr rfl (ZD rfl rfl)<|gr rfl (ZD rfl rfl)<|Zt (ZU Yq rfl rfl (fun b10=>?_))
 refine Zt (Zz 0 Yq rfl rfl rfl rfl rfl rfl (by rfl) ?_)
 refine gas rfl rfl<|gA<|Zb<|Zb<|Za<|gm rfl rfl<|gr rfl (rd_not rfl)<|gA<|Zk rfl<|Zb<|Zb<|Za<|gm rfl rfl<|Zt (Zcc [_,_,_,_,_,_,_] T [2,3,4,5,6] [0,1] 7 rfl rfl rfl (vf:=[]) (vc:=[]) rfl rfl Tryz.call187 (by decide) (by decide) rfl (fun w how hc=>Znb f hf bs bf (some gb) cb rp cp id bm num fb m nb T hms _ w hc hml hfb hbn (by omega) (by omega)) ?_)
 rintro _ _ ⟨e1,f1,m1,nb1,fb1,rfl,hcl,hm1,hf1,hl1,hp1,rfl⟩
 refine Jh [_,_,_,_,_] T [_,_]<|gas rfl rfl<|gA<|Zb<|Za<|gm rfl rfl<|gr rfl (Z4 rfl rfl) (Zw (fun h71=>?_) (fun h71=>?_))
 ·refine gA<|Zk rfl<|Zb<|Za<|gm rfl rfl<|gm rfl rfl<|Zt (Yr [_,_,_,_,_,_,_] T [0] [1,2,3,4,5,6] 7 rfl rfl rfl (vf:=[]) (vc:=[]) rfl rfl Tryz.call188 (by decide) (by decide) rfl (fun w how hc=>XU [] bs bf bm id num fb1 e1 _ w hc) ?_)
  rintro _ _ ⟨rfl,rfl⟩
  refine gas rfl rfl<|gA<|Zu<|Zh<|Zh<|ZW (.inl rfl) Tryz.results182 rfl (ZS (A:=[_,_,_,_,_]) (B:=[_,_,_,_,_,_,_]) (T:=T) [0,1,2,3,4] 7 (by decide) (by decide) rfl rfl) ?_
  exact .inr (.inr ⟨by omega,hnf,e1,f1,m1,nb1,fb1,num,VV e1 id,T,rfl,.inr ⟨hno,e1,f1,plain m1,fb1,hcl,.inl ⟨h71,rfl,rfl,rfl,rfl,rfl,rfl⟩⟩,hm1,(fun _ h=>h),hf1,hl1,by omega,rfl⟩)
 refine gA<|Zl rfl<|Zv<|Ze<|Zb<|Za<|gm rfl rfl<|Zt (ZJ rfl (vf:=[]) (vc:=[]) rfl rfl Tryz.call186 (fun w1 ho=>Zll (gb:=gb) (Zlg f1 hf1 bs bf gb cb rp cp id bm num fb1 w1 (ho.blkCells 0 rfl) (ho.blkCells 2 rfl) (ho.rowSl 3 rfl) (by omega))) ?_)
 rintro _ _ (⟨bk,sl,rfl,hroom,rfl⟩ | ⟨bk,sl,rfl,hno2,rfl⟩)
 ·refine gm rfl rfl<|gr rfl (ZD rfl rfl)<|gr rfl (ZD rfl rfl)<|Zt (Zz 5 Yq rfl rfl rfl rfl rfl rfl (by rfl) ?_)
  refine gas rfl rfl<|gA<|Zb<|Za<|gm rfl rfl<|gr rfl (rd_not rfl)<|gA<|Zl rfl<|Zv<|Ze<|Zb<|ZO [0,1,2,3,4,5,6] false 10 rfl<|Zc 0 rfl rfl ⟨[0,1,2,3,4,5,6],by decide,rfl⟩ (Zf (Zo rfl)) ?_
  refine Zc 1 rfl rfl ⟨[0,1,2,3,4,5,6],by decide,rfl⟩ (Zf (Zo rfl)) ?_
  refine Zc 2 rfl rfl ⟨[0,1,2,3,4,5,6],by decide,rfl⟩ (Zf (ZN rfl)) ?_
  refine Zc 3 rfl rfl ⟨[0,1,2,3,4,5,6],by decide,rfl⟩ (Zf (Zd rfl (YQ _))) ?_
  refine Zc 4 rfl rfl ⟨[0,1,2,3,4,5,6],by decide,rfl⟩ (Zf (Zi Tryz.underlying136 rfl rfl (by exact Zp 0 rfl rfl))) ?_
  refine Zc 5 rfl rfl ⟨[0,1,2,3,4,5,6],by decide,rfl⟩ (Zf (Wh (b:=1) rfl rfl (by omega))) ?_
  refine Zc 6 rfl rfl ⟨[0,1,2,3,4,5,6],by decide,rfl⟩ (Zf (Zo rfl)) ?_
  refine Zap 7 9 (Gv.bm 11 255) (Gv.bm 11 639) rfl rfl rfl rfl (by kernel_rfl) (by kernel_rfl) (by kernel_rfl) (.inr ⟨[0,1,2,3,4,5,6],by decide,rfl⟩) ?_ ?_
  ·refine (ZJ rfl (vf:=[]) (vc:=[]) rfl rfl Tryz.call39 (fun w2 ho=>Wg vs a ca w2 (hsl.at ho) (by omega)) ?_)
   rintro _ _ ⟨rv,cv,rfl,rfl⟩
   refine Zc 8 rfl rfl ⟨[1,2,3,4,5,6,7],by decide,rfl⟩ (Zf (ZT rfl (fun _=>XN _ _ _ _ _))) ?_
   refine ZK 9 rfl (.inr ⟨[1,2,3,4,5,6,7],by decide,rfl⟩) (ZU Yl rfl rfl (fun b13=>?_))
   refine ZK 10 rfl (.inr ⟨[2,3,4,5,6,7,8],by decide,rfl⟩) (Zz 0 Yl rfl rfl rfl rfl rfl rfl (by rfl) ?_)
   refine ZP (.inl (by kernel_rfl)) ?_
   refine Ze<|Zb<|Zb ?_
   have hbkn:=hroom.hbk
   have hslt:=hroom.hsl
   have hplt:=WE (num:=num+1) (show key<65536 by omega) hvs hv16
   have hp24:=XO (key:=key) (num:=num+1) hv16
   obtain ⟨w1,w2,w3,w4,w5⟩:=Zab hf1 (o:=bk * 256+sl * 24) hplt (packP key (num+1) vs).length (by omega)
   rw [show XW f1 (bk * 256+sl * 24) (packP key (num+1) vs) (packP key (num+1) vs).length=Ya f1 (bk * 256+sl * 24) (packP key (num+1) vs) from rfl] at w1 w2 w3 w4 w5
   rw [hp24] at w2
   refine ZO [0,1,3,7,8] true 5 rfl<|Zc 0 rfl rfl ⟨[0,1,3,7,8],by decide,rfl⟩ (Zf (Zo rfl)) ?_
   refine Zc 1 rfl rfl ⟨[0,1,3,7,8],by decide,rfl⟩ (Zf (Zr Tryz.underlying182 rfl Yq rfl (by exact ZH 3 (off:=0) (k:=2) rfl rfl) rfl)) ?_
   refine Zc 2 rfl rfl ⟨[0,1,3,7,8],by decide,rfl⟩ (Zf (Zr Tryz.underlying184 rfl Yl rfl (by exact ZH 0 (off:=0) (k:=3) rfl rfl) rfl)) ?_
   refine ZK 3 rfl (.inr ⟨[0,1,3,7,8],by decide,rfl⟩) (ZJ rfl (vf:=[]) (vc:=[]) rfl rfl Tryz.call190 (fun w2 ho=>Vp ⟨⟨key,num+1,vs,bk,sl⟩,rv,cv⟩ ⟨hkey,hnum,hv16,hvs,(by simp only; omega),(by simp only; omega)⟩ (num+1) hnum w2 (ho.rowSl 1 rfl) (V6 (x:=⟨⟨key,num+1,vs,bk,sl⟩,rv,cv⟩) ho (List.mem_of_getElem? (i:=1) rfl))) ?_)
   rintro _ _ ⟨rr,cr,rfl,rfl⟩
   refine ZK 4 rfl (.inr ⟨[1,2,4,8,9],by decide,rfl⟩) (Yr [_,_,_,_,_,_,_,_,_,_] T [3,5,6,7] [0,1,2,4,8,9] 10 rfl rfl rfl (vf:=[]) (vc:=[]) rfl rfl Tryz.call189 (by decide) (by decide) rfl (fun w how hc=>Vo f1 hf1 bs bf (some gb) cb rp cp id bm num fb1 _ w hc (by omega) bk sl (by have:=hroom.hbk; omega) hroom.hsl (packP key (num+1) vs) hplt hp24 (some ⟨rr,0,none⟩) 24 (Za0 how 0 [3,5,6,7] rfl (by decide))) ?_)
   rintro _ _ ⟨rfl,rfl⟩
   refine Zc 5 rfl rfl ⟨[5,6,7,8,9],by decide,rfl⟩ (Zf (ZY rfl)) ?_
   refine ZP (.inr ⟨[5,6,7,8,9],by decide,rfl⟩) ?_
   refine Ze<|Zb<|Za<|gm rfl rfl<|gr rfl (Z4 rfl rfl) (Zw (fun h97=>?_) (fun h97=>?_))
   ·refine gA<|Zk rfl<|Zb<|Za<|gm rfl rfl<|gm rfl rfl<|Zt (Yr [_,_,_,_,_,_,_,_,_,_] T [0] [1,2,3,4,5,6,7,8,9] 10 rfl rfl rfl (vf:=[]) (vc:=[]) rfl rfl Tryz.call188 (by decide) (by decide) rfl (fun w how hc=>XU [] bs bf bm id num fb1 (Ya f1 (bk * 256+sl * 24) (packP key (num+1) vs)).2 _ w hc) ?_)
    rintro _ _ ⟨rfl,rfl⟩
    refine gas rfl rfl<|gA<|Zu<|Zh<|ZW (.inl rfl) Tryz.results182 rfl (ZS (A:=[_,_,_,_,_]) (B:=[_,_,_,_,_,_,_,_,_,_]) (T:=T) [0,7,1,2,3] 10 (by decide) (by decide) rfl rfl) ?_
    exact .inr (.inr ⟨by omega,hnf,(Ya f1 (bk * 256+sl * 24) (packP key (num+1) vs)).2,(Ya f1 (bk * 256+sl * 24) (packP key (num+1) vs)).1,m1,nb1,fb1,num,VV (Ya f1 (bk * 256+sl * 24) (packP key (num+1) vs)).2 id,T,rfl,.inr ⟨hno,e1,f1,plain m1,fb1,hcl,.inr (.inr ⟨by omega,⟨bk,sl,hroom,rfl,rfl,.inl ⟨h97,rfl,rfl,rfl⟩⟩,rfl⟩)⟩,hm1,(fun _ h=>h),w1,by omega,by omega,rfl⟩)
   refine gA<|Zl rfl<|Zv<|Ze<|Zb<|Za<|gm rfl rfl<|gnc rfl rfl<|gr rfl (Zd rfl (YQ _))<|gr rfl (Zi Tryz.underlying136 rfl rfl (by exact Zp 0 rfl rfl)) ?_
   refine gr rfl (Wh (b:=1) rfl rfl (by omega)) ?_
   refine gnc rfl rfl<|gr rfl (Zd rfl (YQ _))<|Zt (Yc 0 Jm rfl rfl rfl rfl rfl (by rfl) (by rfl) ?_)
   refine gA<|Zb<|ZO [0,1,2,3,4,5,6,8,9] false 8 rfl<|Zc 0 rfl rfl ⟨[0,1,2,3,4,5,6,8,9],by decide,rfl⟩ (Zf (Zo rfl)) ?_
   refine Zc 1 rfl rfl ⟨[0,1,2,3,4,5,6,8,9],by decide,rfl⟩ (Zf (ZN rfl)) ?_
   refine Zc 2 rfl rfl ⟨[0,1,2,3,4,5,6,8,9],by decide,rfl⟩ (Zf (Zd rfl (YG _))) ?_
   refine Zc 3 rfl rfl ⟨[0,1,2,3,4,5,6,8,9],by decide,rfl⟩ (Zf (Zi Tryz.underlying135 rfl rfl (by exact Zp 0 rfl rfl))) ?_
   refine Zc 4 rfl rfl ⟨[0,1,2,3,4,5,6,8,9],by decide,rfl⟩ (Zf (Zo rfl)) ?_
   refine Zc 5 rfl rfl ⟨[0,1,2,3,4,5,6,8,9],by decide,rfl⟩ (Zf (Zr Tryz.underlying184 rfl Yl rfl (by exact ZH 5 (off:=0) (k:=3) rfl rfl) rfl)) ?_
   refine Zc 6 rfl rfl ⟨[0,1,2,3,4,5,6,8,9],by decide,rfl⟩ (Zf (Zr Tryz.underlying182 rfl Yq rfl (by exact ZH 7 (off:=0) (k:=2) rfl rfl) rfl)) ?_
   refine Zc 7 rfl rfl ⟨[0,1,2,3,4,5,6,8,9],by decide,rfl⟩ (Zf (ZT rfl (fun _=>Xk _ _ _ _ _ _ _))) ?_
   refine ZK 8 rfl (.inr ⟨[0,1,2,3,4,5,6,8,9],by decide,rfl⟩) (Xi 7 HV (v:=⟨⟨key,num+1,vs,bk,sl⟩,rv,cv⟩) Tryz.underlying135 Tryz.underlying3 rfl rfl rfl rfl rfl ?_)
   refine ZP (.inl (by kernel_rfl)) ?_
   refine Ze<|Zb<|Za<|gas rfl rfl<|gA<|Zu ?_
   have hw0:(Ya f1 (bk * 256+sl * 24) (packP key (num+1) vs)).2=0:=Decidable.byContradiction h97
   have hen2:EnOk ⟨key,num+1,vs,bk,sl⟩:=⟨hkey,hnum,hv16,hvs,(by have:=hroom.hbk; simp only; omega),hroom.hsl⟩
   refine ZW (.inl rfl) Tryz.results182 rfl (ZS (A:=[_,_,_,_,_,_]) (B:=[_,_,_,_,_,_,_,_,_,_]) (T:=T) [0,7,1,2,3,6] 10 (by decide) (by decide) rfl rfl) ?_
   exact .inr (.inr ⟨by omega,hnf,0,(Ya f1 (bk * 256+sl * 24) (packP key (num+1) vs)).1,WL ((key:Nat):Int) ⟨⟨key,num+1,vs,bk,sl⟩,rv,cv⟩ nb1 m1,mnb ((key:Nat):Int) m1 nb1,fb1,num+1,id,He.row ⟨⟨key,num+1,vs,bk,sl⟩,rv,cv⟩::T,rfl,.inr ⟨hno,e1,f1,plain m1,fb1,hcl,.inr (.inr ⟨by omega,⟨bk,sl,hroom,rfl,hw0.symm,.inr ⟨rfl,WH ⟨⟨key,num+1,vs,bk,sl⟩,rv,cv⟩ nb1 hm1.key,rfl,rfl⟩⟩,rfl⟩)⟩,hm1.put ⟨⟨key,num+1,vs,bk,sl⟩,rv,cv⟩ hen2 (fun y hy=>List.mem_cons_of_mem _ hy) List.mem_cons_self,(fun y hy=>List.mem_cons_of_mem _ hy),w1,by omega,by omega,rfl⟩)
  refine (ZU Yl rfl rfl (fun b13=>?_))
  refine ZK 7 rfl (.inr ⟨[1,2,3,4,5,6,7],by decide,rfl⟩) (ZJ rfl (vf:=[]) (vc:=[]) rfl rfl Tryz.call39 (fun w2 ho=>Wg vs a ca w2 (hsl.at ho) (by omega)) ?_)
  rintro _ _ ⟨rv,cv,rfl,rfl⟩
  refine Zc 8 rfl rfl ⟨[2,3,4,5,6,7,8],by decide,rfl⟩ (Zf (ZT rfl (fun _=>XN _ _ _ _ _))) ?_
  refine ZK 10 rfl (.inr ⟨[2,3,4,5,6,7,8],by decide,rfl⟩) (Zz 1 Yl rfl rfl rfl rfl rfl rfl (by rfl) ?_)
  refine ZP (.inl (by kernel_rfl)) ?_
  refine Ze<|Zb<|Zb ?_
  have hbkn:=hroom.hbk
  have hslt:=hroom.hsl
  have hplt:=WE (num:=num+1) (show key<65536 by omega) hvs hv16
  have hp24:=XO (key:=key) (num:=num+1) hv16
  obtain ⟨w1,w2,w3,w4,w5⟩:=Zab hf1 (o:=bk * 256+sl * 24) hplt (packP key (num+1) vs).length (by omega)
  rw [show XW f1 (bk * 256+sl * 24) (packP key (num+1) vs) (packP key (num+1) vs).length=Ya f1 (bk * 256+sl * 24) (packP key (num+1) vs) from rfl] at w1 w2 w3 w4 w5
  rw [hp24] at w2
  refine ZO [0,1,3,7,8] true 5 rfl<|Zc 0 rfl rfl ⟨[0,1,3,7,8],by decide,rfl⟩ (Zf (Zo rfl)) ?_
  refine Zc 1 rfl rfl ⟨[0,1,3,7,8],by decide,rfl⟩ (Zf (Zr Tryz.underlying182 rfl Yq rfl (by exact ZH 3 (off:=0) (k:=2) rfl rfl) rfl)) ?_
  refine Zc 2 rfl rfl ⟨[0,1,3,7,8],by decide,rfl⟩ (Zf (Zr Tryz.underlying184 rfl Yl rfl (by exact ZH 1 (off:=0) (k:=3) rfl rfl) rfl)) ?_
  refine ZK 3 rfl (.inr ⟨[0,1,3,7,8],by decide,rfl⟩) (ZJ rfl (vf:=[]) (vc:=[]) rfl rfl Tryz.call190 (fun w2 ho=>Vp ⟨⟨key,num+1,vs,bk,sl⟩,rv,cv⟩ ⟨hkey,hnum,hv16,hvs,(by simp only; omega),(by simp only; omega)⟩ (num+1) hnum w2 (ho.rowSl 0 rfl) (V6 (x:=⟨⟨key,num+1,vs,bk,sl⟩,rv,cv⟩) ho (List.mem_of_getElem? (i:=0) rfl))) ?_)
  rintro _ _ ⟨rr,cr,rfl,rfl⟩
  refine ZK 4 rfl (.inr ⟨[1,2,4,8,9],by decide,rfl⟩) (Yr [_,_,_,_,_,_,_,_,_,_] T [3,5,6,7] [0,1,2,4,8,9] 10 rfl rfl rfl (vf:=[]) (vc:=[]) rfl rfl Tryz.call189 (by decide) (by decide) rfl (fun w how hc=>Vo f1 hf1 bs bf (some gb) cb rp cp id bm num fb1 _ w hc (by omega) bk sl (by have:=hroom.hbk; omega) hroom.hsl (packP key (num+1) vs) hplt hp24 (some ⟨rr,0,none⟩) 24 (Za0 how 0 [3,5,6,7] rfl (by decide))) ?_)
  rintro _ _ ⟨rfl,rfl⟩
  refine Zc 5 rfl rfl ⟨[5,6,7,8,9],by decide,rfl⟩ (Zf (ZY rfl)) ?_
  refine ZP (.inr ⟨[5,6,7,8,9],by decide,rfl⟩) ?_
  refine Ze<|Zb<|Za<|gm rfl rfl<|gr rfl (Z4 rfl rfl) (Zw (fun h97=>?_) (fun h97=>?_))
  ·refine gA<|Zk rfl<|Zb<|Za<|gm rfl rfl<|gm rfl rfl<|Zt (Yr [_,_,_,_,_,_,_,_,_,_] T [0] [1,2,3,4,5,6,7,8,9] 10 rfl rfl rfl (vf:=[]) (vc:=[]) rfl rfl Tryz.call188 (by decide) (by decide) rfl (fun w how hc=>XU [] bs bf bm id num fb1 (Ya f1 (bk * 256+sl * 24) (packP key (num+1) vs)).2 _ w hc) ?_)
   rintro _ _ ⟨rfl,rfl⟩
   refine gas rfl rfl<|gA<|Zu<|Zh<|ZW (.inl rfl) Tryz.results182 rfl (ZS (A:=[_,_,_,_,_]) (B:=[_,_,_,_,_,_,_,_,_,_]) (T:=T) [0,7,1,2,3] 10 (by decide) (by decide) rfl rfl) ?_
   exact .inr (.inr ⟨by omega,hnf,(Ya f1 (bk * 256+sl * 24) (packP key (num+1) vs)).2,(Ya f1 (bk * 256+sl * 24) (packP key (num+1) vs)).1,m1,nb1,fb1,num,VV (Ya f1 (bk * 256+sl * 24) (packP key (num+1) vs)).2 id,T,rfl,.inr ⟨hno,e1,f1,plain m1,fb1,hcl,.inr (.inr ⟨by omega,⟨bk,sl,hroom,rfl,rfl,.inl ⟨h97,rfl,rfl,rfl⟩⟩,rfl⟩)⟩,hm1,(fun _ h=>h),w1,by omega,by omega,rfl⟩)
  refine gA<|Zl rfl<|Zv<|Ze<|Zb<|Za<|gm rfl rfl<|gnc rfl rfl<|gr rfl (Zd rfl (YQ _))<|gr rfl (Zi Tryz.underlying136 rfl rfl (by exact Zp 0 rfl rfl)) ?_
  refine gr rfl (Wh (b:=1) rfl rfl (by omega)) ?_
  refine gnc rfl rfl<|gr rfl (Zd rfl (YQ _))<|Zt (Yc 0 Jm rfl rfl rfl rfl rfl (by rfl) (by rfl) ?_)
  refine gA<|Zb<|ZO [0,1,2,3,4,5,6,8,9] false 8 rfl<|Zc 0 rfl rfl ⟨[0,1,2,3,4,5,6,8,9],by decide,rfl⟩ (Zf (Zo rfl)) ?_
  refine Zc 1 rfl rfl ⟨[0,1,2,3,4,5,6,8,9],by decide,rfl⟩ (Zf (ZN rfl)) ?_
  refine Zc 2 rfl rfl ⟨[0,1,2,3,4,5,6,8,9],by decide,rfl⟩ (Zf (Zd rfl (YG _))) ?_
  refine Zc 3 rfl rfl ⟨[0,1,2,3,4,5,6,8,9],by decide,rfl⟩ (Zf (Zi Tryz.underlying135 rfl rfl (by exact Zp 0 rfl rfl))) ?_
  refine Zc 4 rfl rfl ⟨[0,1,2,3,4,5,6,8,9],by decide,rfl⟩ (Zf (Zo rfl)) ?_
  refine Zc 5 rfl rfl ⟨[0,1,2,3,4,5,6,8,9],by decide,rfl⟩ (Zf (Zr Tryz.underlying184 rfl Yl rfl (by exact ZH 6 (off:=0) (k:=3) rfl rfl) rfl)) ?_
  refine Zc 6 rfl rfl ⟨[0,1,2,3,4,5,6,8,9],by decide,rfl⟩ (Zf (Zr Tryz.underlying182 rfl Yq rfl (by exact ZH 7 (off:=0) (k:=2) rfl rfl) rfl)) ?_
  refine Zc 7 rfl rfl ⟨[0,1,2,3,4,5,6,8,9],by decide,rfl⟩ (Zf (ZT rfl (fun _=>Xk _ _ _ _ _ _ _))) ?_
  refine ZK 8 rfl (.inr ⟨[0,1,2,3,4,5,6,8,9],by decide,rfl⟩) (Xi 7 HV (v:=⟨⟨key,num+1,vs,bk,sl⟩,rv,cv⟩) Tryz.underlying135 Tryz.underlying3 rfl rfl rfl rfl rfl ?_)
  refine ZP (.inl (by kernel_rfl)) ?_
  refine Ze<|Zb<|Za<|gas rfl rfl<|gA<|Zu ?_
  have hw0:(Ya f1 (bk * 256+sl * 24) (packP key (num+1) vs)).2=0:=Decidable.byContradiction h97
  have hen2:EnOk ⟨key,num+1,vs,bk,sl⟩:=⟨hkey,hnum,hv16,hvs,(by have:=hroom.hbk; simp only; omega),hroom.hsl⟩
  refine ZW (.inl rfl) Tryz.results182 rfl (ZS (A:=[_,_,_,_,_,_]) (B:=[_,_,_,_,_,_,_,_,_,_]) (T:=T) [0,7,1,2,3,5] 10 (by decide) (by decide) rfl rfl) ?_
  exact .inr (.inr ⟨by omega,hnf,0,(Ya f1 (bk * 256+sl * 24) (packP key (num+1) vs)).1,WL ((key:Nat):Int) ⟨⟨key,num+1,vs,bk,sl⟩,rv,cv⟩ nb1 m1,mnb ((key:Nat):Int) m1 nb1,fb1,num+1,id,He.row ⟨⟨key,num+1,vs,bk,sl⟩,rv,cv⟩::T,rfl,.inr ⟨hno,e1,f1,plain m1,fb1,hcl,.inr (.inr ⟨by omega,⟨bk,sl,hroom,rfl,hw0.symm,.inr ⟨rfl,WH ⟨⟨key,num+1,vs,bk,sl⟩,rv,cv⟩ nb1 hm1.key,rfl,rfl⟩⟩,rfl⟩)⟩,hm1.put ⟨⟨key,num+1,vs,bk,sl⟩,rv,cv⟩ hen2 (fun y hy=>List.mem_cons_of_mem _ hy) List.mem_cons_self,(fun y hy=>List.mem_cons_of_mem _ hy),w1,by omega,by omega,rfl⟩)
 refine gm rfl rfl<|gr rfl (ZD rfl rfl)<|gr rfl (ZD rfl rfl)<|Zt (Zz 5 Yq rfl rfl rfl rfl rfl rfl (by rfl) ?_)
 refine gas rfl rfl<|gA<|Zb<|Za<|gm rfl rfl<|gr rfl (rd_not rfl)<|gA<|Zk rfl<|Zb<|Za<|gas rfl rfl<|gA<|Zu<|Zh<|ZW (.inl rfl) Tryz.results182 rfl (ZS (A:=[_,_,_,_,_]) (B:=[_,_,_,_,_,_,_]) (T:=T) [0,1,2,3,4] 7 (by decide) (by decide) rfl rfl) ?_
 exact .inr (.inr ⟨by omega,hnf,6,f1,m1,nb1,fb1,num,id,T,rfl,.inr ⟨hno,e1,f1,plain m1,fb1,hcl,.inr (.inl ⟨by omega,hno2,rfl,rfl,rfl,rfl,rfl,rfl⟩)⟩,hm1,(fun _ h=>h),hf1,hl1,by omega,rfl⟩)
namespace Iv
def pcn : Nat→Nat→Nat
  | 0,_=>0
  | n+1,a=>a % 2+pcn n (a / 2)
theorem Zgr (a:Nat):pc8 a=pcn 8 a:=by
 simp only [pc8,pcn,Nat.div_div_eq_div_mul]; omega
theorem Zqi {a b:Nat} (h:a ||| b=b):a % 2≤b % 2∧a / 2 ||| b / 2=b / 2:=by
 constructor
 ·have h1:(a ||| b) % 2=b % 2:=by rw [h]
  have h2:=Nat.or_mod_two_eq_one (a:=a) (b:=b)
  rcases Nat.mod_two_eq_zero_or_one a with ha | ha <;> omega
 ·rw [← Nat.or_div_two,h]
theorem Zh2 : ∀ (n:Nat) {a b:Nat},a ||| b=b→pcn n a≤pcn n b
  | 0,_,_,_=>Nat.le_refl _
  | n+1,a,b,h=>by
    obtain ⟨h1,h2⟩:=Zqi h
    have:=Zh2 n h2
    simp only [pcn]; omega
theorem pcn_eq : ∀ (n:Nat) {a b:Nat},a ||| b=b→a<2 ^ n→b<2 ^ n→pcn n a=pcn n b→a=b
  | 0,a,b,_,ha,hb,_=>by simp at ha hb; omega
  | n+1,a,b,h,ha,hb,he=>by
    obtain ⟨h1,h2⟩:=Zqi h
    have hm:=Zh2 n h2
    simp only [pcn] at he
    have:=pcn_eq n h2 (by rw [Nat.pow_succ] at ha; omega) (by rw [Nat.pow_succ] at hb; omega) (by omega)
    omega
theorem Znc {a b:Nat} (h:a ||| b=b):pc8 a≤pc8 b:=by rw [Zgr,Zgr]; exact Zh2 8 h
theorem pc8_eq {a b:Nat} (h:a ||| b=b) (ha:a<256) (hb:b<256) (he:pc8 a=pc8 b):a=b:=by
 rw [Zgr,Zgr] at he; exact pcn_eq 8 h ha hb he
def Cov : List Nat→List Nat→Prop
  | [],[]=>True
  | y::ys,z::zs=>y ||| z=z∧Cov ys zs
  | _,_=>False
theorem Cov.refl : ∀ ys:List Nat,Cov ys ys
  | []=>trivial
  | y::ys=>⟨Nat.or_self y,Cov.refl ys⟩
theorem Cov.trans : ∀ {xs ys zs:List Nat},Cov xs ys→Cov ys zs→Cov xs zs
  | [],[],[],_,_=>trivial
  | x::xs,y::ys,z::zs,h1,h2=>⟨by rw [← h2.1,← Nat.or_assoc,h1.1],h1.2.trans h2.2⟩
  | [],_::_,_,h,_=>h.elim
  | _::_,[],_,h,_=>h.elim
  | _,[],_::_,_,h=>h.elim
  | _,_::_,[],_,h=>h.elim
theorem Cov.len : ∀ {ys zs:List Nat},Cov ys zs→ys.length=zs.length
  | [],[],_=>rfl
  | y::ys,z::zs,h=>by simp [h.2.len]
  | [],_::_,h=>h.elim
  | _::_,[],h=>h.elim
theorem Cov.take : ∀ {ys zs:List Nat} (k:Nat),Cov ys zs→Cov (ys.take k) (zs.take k)
  | [],[],_,_=>by simp [Cov]
  | y::ys,z::zs,0,h=>by simp [Cov]
  | y::ys,z::zs,k+1,h=>⟨h.1,h.2.take k⟩
  | [],_::_,_,h=>h.elim
  | _::_,[],_,h=>h.elim
theorem Cov.at : ∀ {ys zs:List Nat} (k:Nat),Cov ys zs→gB ys k ||| gB zs k=gB zs k
  | [],[],k,_=>by simp [gB]
  | y::ys,z::zs,0,h=>h.1
  | y::ys,z::zs,k+1,h=>by have:=h.2.at k; simpa [gB] using this
  | [],_::_,_,h=>h.elim
  | _::_,[],_,h=>h.elim
theorem Cov.of : ∀ {ys zs:List Nat},ys.length=zs.length→(∀ k,k<ys.length→gB ys k ||| gB zs k=gB zs k)→Cov ys zs
  | [],[],_,_=>trivial
  | y::ys,z::zs,hl,h=>⟨by simpa [gB] using h 0 (by simp),Cov.of (by simpa using hl) fun k hk=>by simpa [gB] using h (k+1) (by simp; omega)⟩
  | [],_::_,h,_=>by simp at h
  | _::_,[],h,_=>by simp at h
theorem Cov.antisymm : ∀ {ys zs:List Nat},Cov ys zs→Cov zs ys→ys=zs
  | [],[],_,_=>rfl
  | y::ys,z::zs,h1,h2=>by
    have e:y=z:=by have a:=h1.1; have b:=h2.1; rw [Nat.or_comm] at b; omega
    rw [e,h1.2.antisymm h2.2]
  | [],_::_,h,_=>h.elim
  | _::_,[],h,_=>h.elim
theorem Cov.zeros : ∀ {ys zs:List Nat},Cov ys zs→Yw zs≤Yw ys
  | [],[],_=>Nat.le_refl _
  | y::ys,z::zs,h=>by
    have:=h.2.zeros
    have:=Znc h.1
    have:=Zc0 z
    simp only [Yw]; omega
  | [],_::_,h=>h.elim
  | _::_,[],h=>h.elim
theorem Cov.eq_of_zeros : ∀ {ys zs:List Nat},Cov ys zs→(∀ z∈ys,z<256)→(∀ z∈zs,z<256)→Yw zs=Yw ys→ys=zs
  | [],[],_,_,_,_=>rfl
  | y::ys,z::zs,h,hy,hz,e=>by
    have h1:=h.2.zeros
    have h2:=Znc h.1
    have h3:=Zc0 z
    have h4:=Zc0 y
    simp only [Yw] at e
    rw [pc8_eq h.1 (hy y List.mem_cons_self) (hz z List.mem_cons_self) (by omega),h.2.eq_of_zeros (fun x hx=>hy x (List.mem_cons_of_mem _ hx)) (fun x hx=>hz x (List.mem_cons_of_mem _ hx)) (by omega)]
  | [],_::_,h,_,_,_=>h.elim
  | _::_,[],h,_,_,_=>h.elim
theorem or_le {a b:Nat} (h:a ||| b=b):a≤b:=by rw [← h]; exact Nat.left_le_or
theorem Zh3 {a b:List Nat} (hl:a.length=b.length) (h:∀ k,k<a.length→gB a k=gB b k):a=b:=by
 apply List.ext_getElem hl
 intro i h1 h2
 have:=h i h1
 simpa [gB,h1,h2] using this
theorem V7 (b:List Nat) (o n k:Nat) (h:k<n):gB ((b.drop o).take n) k=gB b (o+k):=by
 unfold gB
 rw [List.getD_eq_getElem?_getD,List.getD_eq_getElem?_getD,List.getElem?_take,if_pos h,List.getElem?_drop]
theorem VW (b:List Nat) (o v k:Nat) (h:o<b.length):gB (b.set o v) k=if k=o then v else gB b k:=by
 unfold gB
 rw [List.getD_eq_getElem?_getD,List.getD_eq_getElem?_getD,List.getElem?_set]
 by_cases e:o=k
 ·subst e; rw [if_pos rfl,if_pos rfl,if_pos h]; rfl
 ·rw [if_neg e,if_neg (by omega)]
theorem Zpb {b:List Nat} {k:Nat} (h:k<b.length):gB b k∈b:=by
 have:gB b k=b[k]:=by simp [gB,h]
 rw [this]; exact List.getElem_mem h
theorem Zea (b:List Nat) (bk sl:Nat) {k:Nat} (h:k<24):gB (slotB b bk sl) k=gB b (bk * 256+sl * 24+k):=V7 b _ 24 k h
theorem Zjx : ∀ {zs:List Nat},(∀ z∈zs,z<256)→Yw zs=0→∀ z∈zs,z=255
  | [],_,_,z,hz=>by cases hz
  | y::ys,h,h0,z,hz=>by
    simp only [Yw] at h0
    rcases List.mem_cons.1 hz with rfl | hz
    · have h1:pc8 z=8:=by have:=Zc0 z; omega
      have h2:=h z List.mem_cons_self
      have h3:z ||| 255=255:=by
        refine Nat.le_antisymm ?_ Nat.right_le_or
        have:=Nat.or_lt_two_pow (n:=8) (show z<2 ^ 8 by omega) (show 255<2 ^ 8 by decide)
        omega
      exact pc8_eq h3 h2 (by decide) (by rw [h1]; decide)
    · exact Zjx (fun x hx=>h x (List.mem_cons_of_mem _ hx)) (by omega) z hz
theorem Jd {zs:List Nat} (h:∀ z∈zs,z<256):Yw zs=0↔∀ k,k<zs.length→gB zs k=255:=by
 constructor
 ·exact fun h0 k hk=>Zjx h h0 _ (Zpb hk)
 ·intro h1
  have:zs=List.replicate zs.length 255:=Zh3 (by simp) fun k hk=>by rw [h1 k hk]; simp [gB,hk]
  rw [this]; exact Zjt _
structure EnV (key num:Nat) (vs:List Nat):Prop where
  key:key≤999
  num:num<4294967296
  len:vs.length≤16
  val:∀ z∈vs,z<256
theorem EnOk.v {x:En} (h:EnOk x):EnV x.key x.num x.val:=⟨h.key,h.num,h.len,h.val⟩
def pkB (key num:Nat) (vs:List Nat):List Nat:=pk3 vs (pk2 num (pk1 key vs.length) 4)
theorem Zqj {key num:Nat} {vs:List Nat} (h:vs.length≤16):(pkB key num vs).length=24:=Zgn (by rw [JM,Zaz]) h
theorem Zh4 (key num:Nat) (vs:List Nat):packP key num vs=(pkB key num vs).set 23 (Yw ((pkB key num vs).take 23)):=rfl
theorem Zqk (num:Nat) {b:List Nat} (hb:b.length=24):∀ n,n≤4→∀ k,gB (pk2 num b n) k=if 3≤k∧k<3+n then (num >>> (24 - 8 * (k - 3))) % 256 else gB b k
  | 0,_,k=>by rw [if_neg (by omega)]; rfl
  | n+1,h,k=>by
    rw [Zbz,VW _ _ _ _ (by rw [JM,hb]; omega),Zqk num hb n (by omega) k]
    by_cases e:k=3+n
    · subst e; rw [if_pos rfl,if_pos (by omega),show 3+n - 3=n by omega]
    · rw [if_neg e]
      by_cases e2:3≤k∧k<3+n
      · rw [if_pos e2,if_pos (by omega)]
      · rw [if_neg e2,if_neg (by omega)]
theorem pk1_get (key len k:Nat) (hk:k<24):gB (pk1 key len) k=if k=0 then key / 256 % 256 else if k=1 then key % 256 else if k=2 then len % 256 else 255:=by
 unfold pk1
 rw [VW _ _ _ _ (by simp),VW _ _ _ _ (by simp),VW _ _ _ _ (by simp),Nat.shiftRight_eq_div_pow]
 have e:gB (List.replicate 24 255) k=255:=by unfold gB; rw [List.getD_eq_getElem?_getD,List.getElem?_replicate,if_pos hk]; rfl
 rw [e]
 by_cases h2:k=2
 ·subst h2; rfl
 ·rw [if_neg h2]
  by_cases h1:k=1
  ·subst h1; rfl
  ·rw [if_neg h1]
   by_cases h0:k=0
   ·subst h0; rfl
   ·rw [if_neg h0,if_neg h0,if_neg h1,if_neg h2]
theorem pk3_get {vs b:List Nat} (hb:b.length=24) (hv:vs.length≤16) (k:Nat):gB (pk3 vs b) k=if k<7 then gB b k else if k<7+vs.length then gB vs (k - 7) else gB b k:=by
 unfold pk3 gB
 simp only [List.getD_eq_getElem?_getD,List.getElem?_append,List.length_append,List.length_take,hb,show min 7 24=7 from rfl]
 by_cases h7:k<7
 ·rw [if_pos (by omega),if_pos h7,if_pos h7,List.getElem?_take,if_pos h7]
 ·rw [if_neg h7]
  by_cases h8:k<7+vs.length
  ·rw [if_pos h8,if_neg h7,if_pos h8]
  ·rw [if_neg h8,if_neg h7,if_neg h8,List.getElem?_drop,show 7+vs.length+(k - (7+vs.length))=k by omega]
theorem Zeb {key num:Nat} {vs:List Nat} (hv:vs.length≤16) {k:Nat} (hk:k<24):gB (pkB key num vs) k=if k<7 then (if 3≤k then (num >>> (24 - 8 * (k - 3))) % 256 else if k=0 then key / 256 % 256 else if k=1 then key % 256 else vs.length % 256) else if k<7+vs.length then gB vs (k - 7) else 255:=by
 unfold pkB
 rw [pk3_get (by rw [JM,Zaz]) hv,Zqk num (Zaz _ _) 4 (Nat.le_refl _),pk1_get key vs.length k hk]
 by_cases h7:k<7
 ·rw [if_pos h7,if_pos h7]
  by_cases h3:3≤k
  ·rw [if_pos (by omega),if_pos h3]
  ·rw [if_neg (by omega),if_neg h3]
   by_cases h0:k=0
   ·rw [if_pos h0,if_pos h0]
   ·rw [if_neg h0,if_neg h0]
    by_cases h1:k=1
    ·rw [if_pos h1,if_pos h1]
    ·rw [if_neg h1,if_neg h1,if_pos (by omega)]
 ·rw [if_neg h7,if_neg h7]
  by_cases h8:k<7+vs.length
  ·rw [if_pos h8,if_pos h8]
  ·rw [if_neg h8,if_neg h8,if_neg (by omega),if_neg (by omega),if_neg (by omega),if_neg (by omega)]
theorem Zb3 {key num:Nat} {vs:List Nat} (hv:vs.length≤16) {k:Nat} (hk:k<23):gB (packP key num vs) k=gB (pkB key num vs) k:=by
 rw [Zh4,VW _ _ _ _ (by rw [Zqj hv]; decide),if_neg (by omega)]
theorem Zrw {key num:Nat} {vs:List Nat} (hv:vs.length≤16):(packP key num vs).take 23=(pkB key num vs).take 23:=by
 rw [Zh4,List.take_set_of_le (Nat.le_refl _)]
theorem Zql {key num:Nat} {vs:List Nat} (hv:vs.length≤16):gB (packP key num vs) 23=Yw ((packP key num vs).take 23):=by
 rw [Zrw hv,Zh4,VW _ _ _ _ (by rw [Zqj hv]; decide),if_pos rfl]
theorem Zh5 {a b n:Nat} (hb:b<2 ^ n):a <<< n ||| b=a * 2 ^ n+b:=by
 rw [← Nat.shiftLeft_add_eq_or_of_lt hb,Nat.shiftLeft_eq]
theorem Znd {key num:Nat} {vs:List Nat} (h:EnV key num vs):keyP (packP key num vs)=key:=by
 have:=h.key
 unfold keyP
 rw [Zb3 h.len (by decide),Zb3 h.len (by decide),Zeb h.len (by decide),Zeb h.len (by decide)]
 simp
 rw [Zh5 (n:=8) (by omega)]
 omega
theorem Zlm {key num:Nat} {vs:List Nat} (h:EnV key num vs) {j:Nat} (hj:j<4):gB (packP key num vs) (3+j)=num >>> (24 - 8 * j) % 256:=by
 rw [Zb3 h.len (by omega),Zeb h.len (by omega),if_pos (by omega),if_pos (by omega),show 3+j - 3=j by omega]
theorem pack_num {key num:Nat} {vs:List Nat} (h:EnV key num vs):numTo (packP key num vs) 4=num:=by
 have:=h.num
 rw [Vx,Vx,Vx,Vx,Zlm h (by decide),Zlm h (by decide),Zlm h (by decide),Zlm h (by decide)]
 simp only [Nat.shiftRight_eq_div_pow]
 rw [Zh5 (n:=8) (by omega),Zh5 (n:=8) (by omega),Zh5 (n:=8) (by omega),Zh5 (n:=8) (by omega)]
 simp [numTo]
 omega
theorem pack_2 {key num:Nat} {vs:List Nat} (h:EnV key num vs):gB (packP key num vs) 2=vs.length:=by
 have:=h.len
 rw [Zb3 h.len (by decide),Zeb h.len (by decide)]
 simp; omega
theorem pack_val {key num:Nat} {vs:List Nat} (h:EnV key num vs):Xn (packP key num vs)=vs:=by
 have hl:=h.len
 have hp:=XO (key:=key) (num:=num) h.len
 unfold Xn
 rw [pack_2 h]
 refine Zh3 (by simp [hp]; omega) fun k hk=>?_
 simp [hp] at hk
 rw [V7 _ _ _ _ (by omega),Zb3 h.len (by omega),Zeb h.len (by omega),if_neg (by omega),if_pos (by omega),show 7+k - 7=k by omega]
theorem Zrx {key num:Nat} {vs:List Nat} (h:EnV key num vs):W1 (packP key num vs)=false:=by
 have:=h.key
 have:=h.len
 unfold W1
 rw [Znd h,pack_2 h,Zql h.len]
 simp; omega
theorem Zne {key num:Nat} {vs zs:List Nat} (h:EnV key num vs) (hc:Cov (packP key num vs) zs) (hz:∀ z∈zs,z<256) (hg:W1 zs=false):zs=packP key num vs:=by
 have hp:=XO (key:=key) (num:=num) h.len
 have hplt:=WE (num:=num) (show key<65536 by have:=h.key; omega) h.val h.len
 have hzl:=hc.len
 have h23:gB zs 23=Yw (zs.take 23):=by
  unfold W1 at hg
  simp only [Bool.or_eq_false_iff,decide_eq_false_iff_not] at hg
  exact Decidable.byContradiction fun e=>hg.1.1 e
 have c1:=or_le (hc.at 23)
 have c2:=(hc.take 23).zeros
 have p23:=Zql (key:=key) (num:=num) h.len
 have e1:=(hc.take 23).eq_of_zeros (fun z hz'=>hplt z (List.mem_of_mem_take hz')) (fun z hz'=>hz z (List.mem_of_mem_take hz')) (by omega)
 refine Zh3 (by rw [hzl]) fun k hk=>?_
 by_cases e:k=23
 ·subst e; omega
 ·have:=congrArg (fun l=>gB l k) e1
  have g1:=V7 (packP key num vs) 0 23 k (by omega)
  have g2:=V7 zs 0 23 k (by omega)
  simp only [List.drop_zero,Nat.zero_add] at g1 g2
  rw [← g1,← g2,this]
theorem Zjy {zs:List Nat} (hl:zs.length=24) (hz:∀ z∈zs,z<256) (h:Yw zs=0):W1 zs=true:=by
 have h0:=(Jd hz).1 h 0 (by omega)
 have h1:=(Jd hz).1 h 1 (by omega)
 unfold W1 keyP
 rw [h0,h1]
 simp
theorem cov_255 {ys zs:List Nat} (hl:ys.length=zs.length) (hy:∀ z∈ys,z<256) (hz:∀ z∈zs,z<256) (h:Yw zs=0):Cov ys zs:=by
 refine Cov.of hl fun k hk=>?_
 rw [(Jd hz).1 h k (by omega)]
 have:=X4 hy k
 refine Nat.le_antisymm ?_ Nat.right_le_or
 have h2:gB ys k ||| 255<2 ^ 8:=Nat.or_lt_two_pow (by omega) (by decide)
 omega
end Iv
namespace Iv
theorem begins_ok {f:Fl} (hd:f.down=false) {k m:Nat} (hk:k<m):Y1 f (k:Int) (m:Int)=0:=by
 unfold Y1; rw [if_neg (by omega),if_neg (by omega),if_neg (by rw [hd]; decide)]
theorem prog_at {f:Fl} (hf:f.Ok) (hd:f.down=false) {k u:Nat} (hk:k<f.b.length) :
    (((YO f (k:Int) u).2=0∧(YO f (k:Int) u).1.down=false∧gB (YO f (k:Int) u).1.b k=gB f.b k &&& u) ∨
     ((YO f (k:Int) u).2=9∧(YO f (k:Int) u).1.down=true∧∃ p,gB (YO f (k:Int) u).1.b k=gB f.b k &&& (u ||| p))) ∧
    (∀ j,j≠k→gB (YO f (k:Int) u).1.b j=gB f.b j):=by
  unfold YO
  rw [if_neg (by rw [begins_ok hd hk]; decide),Int.toNat_natCast]
  unfold Wq
  cases hdn:(flFails { f with pr:=f.pr+1 }).down with
  | false =>
    simp only [Bool.not_false,if_true]
    refine ⟨.inl ⟨trivial,hdn,?_⟩,fun j hj=>?_⟩
    · rw [VW _ _ _ _ hk,if_pos rfl]
    · rw [VW _ _ _ _ hk,if_neg hj]
  | true =>
    simp only [Bool.not_true,Bool.false_eq_true,if_false]
    refine ⟨.inr ⟨trivial,hdn,?_⟩,fun j hj=>?_⟩
    · rw [VW _ _ _ _ hk,if_pos rfl]
      split
      · exact ⟨gB f.picks 0,rfl⟩
      · exact ⟨0,by rw [Nat.or_zero]⟩
    · rw [VW _ _ _ _ hk,if_neg hj]
theorem Zqm {u:Nat} (h:u<256):255 &&& u=u:=by
 rw [Nat.and_comm,show 255=2 ^ 8 - 1 from rfl,Nat.and_two_pow_sub_one_eq_mod]; omega
theorem Zpc {u p:Nat} (h:u<256):u ||| 255 &&& (u ||| p)=255 &&& (u ||| p):=by
 apply Nat.eq_of_testBit_eq
 intro i
 simp only [Nat.testBit_or,Nat.testBit_and]
 by_cases hi:u.testBit i=true
 ·have:(255).testBit i=true:=by
   have hlt:i<8:=by
    apply Decidable.byContradiction
    intro hn
    rw [Nat.testBit_lt_two_pow (x:=u) (i:=i) (Nat.lt_of_lt_of_le (show u<2 ^ 8 by omega) (Nat.pow_le_pow_right (by decide) (by omega)))] at hi
    cases hi
   rw [show 255=2 ^ 8 - 1 from rfl,Nat.testBit_two_pow_sub_one]
   simp [hlt]
  rw [hi,this]; rfl
 ·simp only [Bool.not_eq_true] at hi
  rw [hi]; simp
theorem wr_at {f:Fl} (hf:f.Ok) (hd:f.down=false) {o:Nat} {bs:List Nat} (hb:∀ z∈bs,z<256) (hpr:f.pr+24<4611686018427387904) (ho:o+24≤f.b.length) (he:∀ i,i<24→gB f.b (o+i)=255):∀ k,k≤24 →
    (∀ j,(j<o∨o+24≤j)→gB (XW f o bs k).1.b j=gB f.b j)∧(∀ i,i<24→gB bs i ||| gB (XW f o bs k).1.b (o+i)=gB (XW f o bs k).1.b (o+i)) ∧
    (((XW f o bs k).2=0∧(XW f o bs k).1.down=false∧(∀ i,i<k→gB (XW f o bs k).1.b (o+i)=gB bs i)∧(∀ i,k≤i→i<24→gB (XW f o bs k).1.b (o+i)=255))∨((XW f o bs k).2=9∧(XW f o bs k).1.down=true))
  | 0,_=>⟨fun _ _=>rfl,fun i hi=>by
      rw [show (XW f o bs 0).1=f from rfl,he i hi]
      have h2:=X4 hb i
      refine Nat.le_antisymm ?_ Nat.right_le_or
      have:=Nat.or_lt_two_pow (n:=8) (show gB bs i<2 ^ 8 by omega) (show 255<2 ^ 8 by decide)
      omega,.inl ⟨rfl,hd,fun i h=>absurd h (Nat.not_lt_zero _),fun i _ hi=>he i hi⟩⟩
  | k+1,hk=>by
    obtain ⟨h1,h2,h3⟩:=wr_at hf hd hb hpr ho he k (by omega)
    obtain ⟨g1,g2,g3,g4,g5⟩:=Zab hf (o:=o) hb k (by omega)
    rw [Za2]
    obtain ⟨r,hr⟩:∃ r,XW f o bs k=r:=⟨_,rfl⟩
    rw [hr] at h1 h2 h3 g1 g2 g3 g4 g5 ⊢
    unfold Za1
    rcases h3 with ⟨e0,e1,e2,e3⟩ | ⟨e0,e1⟩
    · rw [if_neg (by rw [e0]; decide)]
      split
      · rename_i h255
        refine ⟨h1,h2,.inl ⟨e0,e1,fun i hi=>?_,fun i hi hi2=>e3 i (by omega) hi2⟩⟩
        by_cases e:i=k
        · subst e; rw [e3 i (Nat.le_refl _) (by omega),h255]
        · exact e2 i (by omega)
      · obtain ⟨p1,p2⟩:=prog_at (f:=r.1) g1 e1 (k:=o+k) (u:=gB bs k) (by omega)
        have hu:=X4 hb k
        have h255:=e3 k (Nat.le_refl _) (by omega)
        refine ⟨fun j hj=>?_,fun i hi=>?_,?_⟩
        · rw [p2 j (by omega)]; exact h1 j hj
        · by_cases e:i=k
          · subst e
            rcases p1 with ⟨_,_,q⟩ | ⟨_,_,p,q⟩
            · rw [q,h255,Zqm hu,Nat.or_self]
            · rw [q,h255]; exact Zpc hu
          · rw [p2 (o+i) (by omega)]; exact h2 i hi
        · rcases p1 with ⟨q0,q1,q⟩ | ⟨q0,q1,_⟩
          · refine .inl ⟨q0,q1,fun i hi=>?_,fun i hi hi2=>?_⟩
            · by_cases e:i=k
              · subst e; rw [q,h255,Zqm hu]
              · rw [p2 (o+i) (by omega)]; exact e2 i (by omega)
            · rw [p2 (o+i) (by omega)]; exact e3 i (by omega) hi2
          · exact .inr ⟨q0,q1⟩
    · rw [if_pos (by rw [e0]; decide)]
      exact ⟨h1,h2,.inr ⟨e0,e1⟩⟩
structure Wrote (f:Fl) (o:Nat) (bs:List Nat) (g:Fl) (e:Int):Prop where
  ok:g.Ok
  len:g.b.length=f.b.length
  st:g.st=f.st
  er:g.er=f.er
  pr:g.pr≤f.pr+24
  out:∀ j,(j<o∨o+24≤j)→gB g.b j=gB f.b j
  cov:Cov bs ((g.b.drop o).take 24)
  res:(e=0∧g.down=false∧(g.b.drop o).take 24=bs)∨(e=9∧g.down=true)
  no:f.left = -1→e=0∧g.left = -1
theorem wrote {f:Fl} (hf:f.Ok) (hd:f.down=false) {o:Nat} {bs:List Nat} (hl:bs.length=24) (hb:∀ z∈bs,z<256) (hpr:f.pr+24<4611686018427387904) (ho:o+24≤f.b.length) (he:Yw ((f.b.drop o).take 24)=0):Wrote f o bs (Ya f o bs).1 (Ya f o bs).2:=by
 have hpl:((f.b.drop o).take 24).length=24:=by simp; omega
 have he2:=(Jd (fun z hz=>hf.bs z (List.mem_of_mem_drop (List.mem_of_mem_take hz)))).1 he
 have he3:∀ i,i<24→gB f.b (o+i)=255:=fun i hi=>by rw [← V7 f.b o 24 i hi]; exact he2 i (by omega)
 obtain ⟨h1,h2,h3⟩:=wr_at hf hd hb hpr ho he3 24 (Nat.le_refl _)
 obtain ⟨g1,g2,g3,g4,g5⟩:=Zab hf (o:=o) hb 24 (by omega)
 have ge:=wr_er f o bs 24
 have hwe:Ya f o bs=XW f o bs 24:=by unfold Ya; rw [hl]
 rw [hwe]
 have gn:=fun h=>wr_no (f:=f) h hd (o:=o) (bs:=bs) 24 ho
 obtain ⟨r,hr⟩:∃ r,XW f o bs 24=r:=⟨_,rfl⟩
 rw [hr] at h1 h2 h3 g1 g2 g3 g4 g5 ge gn ⊢
 have hql:((r.1.b.drop o).take 24).length=24:=by simp; omega
 refine ⟨g1,g3,g5,ge,g2,h1,Cov.of (by omega) fun k hk=>?_,?_,fun h=>?_⟩
 ·rw [V7 _ _ _ _ (by omega)]; exact h2 k (by omega)
 ·rcases h3 with ⟨e0,e1,e2,_⟩ | h
  ·exact .inl ⟨e0,e1,Zh3 (by omega) fun k hk=>by rw [V7 _ _ _ _ (by omega)]; exact e2 k (by omega)⟩
  ·exact .inr h
 ·exact ⟨(gn h).1,(gn h).2.1⟩
structure Erased (f:Fl) (k:Nat) (g:Fl) (e:Int):Prop where
  ok:g.Ok
  len:g.b.length=f.b.length
  st:g.st=f.st
  er:g.er≤f.er+1
  pr:g.pr=f.pr
  out:∀ j,(j<k * 256∨k * 256+256≤j)→gB g.b j=gB f.b j
  cov:∀ i,i<256→gB f.b (k * 256+i) ||| gB g.b (k * 256+i)=gB g.b (k * 256+i)
  res:(e=0∧g.down=false∧∀ i,i<256→gB g.b (k * 256+i)=255)∨(e=9∧g.down=true)
  no:f.left = -1→e=0∧g.left = -1
theorem or_255 {a:Nat} (h:a<256):a ||| 255=255:=by
 refine Nat.le_antisymm ?_ Nat.right_le_or
 have:=Nat.or_lt_two_pow (n:=8) (show a<2 ^ 8 by omega) (show 255<2 ^ 8 by decide)
 omega
theorem Znf (p b:List Nat) (o:Nat):∀ n,o+n≤b.length→(∀ j,(j<o∨o+n≤j)→gB (orTo p b o n) j=gB b j)∧(∀ i,i<n→gB b (o+i) ||| gB (orTo p b o n) (o+i)=gB (orTo p b o n) (o+i))
  | 0,_=>⟨fun _ _=>rfl,fun i h=>absurd h (Nat.not_lt_zero _)⟩
  | n+1,h=>by
    obtain ⟨h1,h2⟩:=Znf p b o n (by omega)
    rw [Zcj]
    refine ⟨fun j hj=>?_,fun i hi=>?_⟩
    · rw [VW _ _ _ _ (by rw [J9]; omega),if_neg (by omega)]; exact h1 j (by omega)
    · rw [VW _ _ _ _ (by rw [J9]; omega)]
      by_cases e:i=n
      · subst e; rw [if_pos rfl,h1 (o+i) (by omega),← Nat.or_assoc,Nat.or_self]
      · rw [if_neg (by omega)]; exact h2 i (by omega)
theorem fill_get (b:List Nat) (o m:Nat) (h:o+m≤b.length) (j:Nat):gB (b.take o++List.replicate m 255++b.drop (o+m)) j=if o≤j∧j<o+m then 255 else gB b j:=by
 unfold gB
 have e1:(b.take o).length=o:=by simp; omega
 have e2:(b.take o++List.replicate m 255).length=o+m:=by simp; omega
 rw [List.getD_eq_getElem?_getD,List.getD_eq_getElem?_getD]
 by_cases h1:j<o
 ·rw [List.getElem?_append_left (by omega),List.getElem?_append_left (by omega),if_neg (by omega),List.getElem?_take,if_pos h1]
 ·by_cases h2:j<o+m
  ·rw [List.getElem?_append_left (by omega),List.getElem?_append_right (by omega),if_pos (by omega),List.getElem?_replicate,if_pos (by omega)]; rfl
  ·rw [List.getElem?_append_right (by omega),if_neg (by omega),List.getElem?_drop,e2,show o+m+(j - (o+m))=j by omega]
theorem erased {f:Fl} (hf:f.Ok) (hd:f.down=false) {k:Nat} (hk:k<f.b.length / 256) (her:f.er+1<4611686018427387904):Erased f k (Yy f (k:Int)).1 (Yy f (k:Int)).2:=by
 obtain ⟨e1,e2,e3,e4,e5⟩:=Ze4 hf her (k:Int)
 have hin:k * 256+256≤f.b.length:=by omega
 have hne:Y1 f (k:Int) (f.b.length / 256:Nat)=0:=begins_ok hd hk
 have hrw:Yy f (k:Int)=Xv f k:=by
  unfold Yy
  rw [if_neg (by rw [hne]; decide),Int.toNat_natCast]
 rw [hrw] at e1 e2 e3 e4 e5 ⊢
 have hfill:∀ j,gB (f.b.take (k * 256)++List.replicate 256 255++f.b.drop (k * 256+256)) j=if k * 256≤j∧j<k * 256+256 then 255 else gB f.b j:=fill_get f.b (k * 256) 256 hin
 have hor:=Znf f.picks f.b (k * 256) 256 (by omega)
 refine ⟨e1,e3,e4,e2,e5,?_,?_,?_,fun h=>?_⟩
 ·intro j hj
  unfold Xv
  simp only
  split
  ·rw [hfill,if_neg (by omega)]
  ·exact hor.1 j hj
 ·intro i hi
  unfold Xv
  simp only
  split
  ·rw [hfill,if_pos (by omega)]; exact or_255 (X4 hf.bs _)
  ·exact hor.2 i hi
 ·unfold Xv
  cases hdn:(flFails { f with er:=f.er+1 }).down with
  | false =>
   refine .inl ⟨rfl,rfl,fun i hi=>?_⟩
   simp only [Bool.not_false,Bool.true_or,if_true]
   rw [hfill,if_pos (by omega)]
  | true=>exact .inr ⟨rfl,rfl⟩
 ·obtain ⟨n1,n2⟩:=Zhx (f:={ f with er:=f.er+1 }) h
  unfold Xv
  rw [n2]
  exact ⟨rfl,n1⟩
end Iv
namespace Iv
abbrev Ym := Nat→Option (Nat × List Nat)
structure Gd (b:List Nat) (y:En):Prop where
  bk:y.bk<b.length / 256
  sl:y.sl<10
  good:W1 (slotB b y.bk y.sl)=false
  eq:enB b y.bk y.sl=y
structure FI (b:List Nat) (N:Nat) (V:Ym):Prop where
  lt:∀ z∈b,z<256
  lm:b.length % 256=0
  nb:b.length / 256≤64
  slo:∀ bk sl,bk<b.length / 256→sl<10→∃ key num vs,EnV key num vs∧Cov (packP key num vs) (slotB b bk sl)
  num:∀ y,Gd b y→y.num≤N
  uq:∀ y z,Gd b y→Gd b z→y.key=z.key→y.num=z.num→y.val=z.val
  topN:∀ k,V k=none→∀ y,Gd b y→y.key≠k
  topS:∀ k m v,V k=some (m,v)→(∃ y,Gd b y∧y.key=k∧y.num=m∧y.val=v)∧∀ y,Gd b y→y.key=k→y.num≤m
def Jt (b:List Nat) (e:Nat):Prop:=∀ y,Gd b y→y.bk=e→∃ z,Gd b z∧z.bk≠e∧z.key=y.key∧y.num≤z.num
theorem FI.mono {b:List Nat} {N N':Nat} {V:Ym} (h:FI b N V) (hN:N≤N'):FI b N' V:=⟨h.lt,h.lm,h.nb,h.slo,fun y hy=>Nat.le_trans (h.num y hy) hN,h.uq,h.topN,h.topS⟩
theorem Gd.ok {b:List Nat} {y:En} (h:Gd b y) (hlt:∀ z∈b,z<256) (hnb:b.length / 256≤64):EnOk y:=by
 have h1:=h.bk
 have h2:=h.sl
 have:=Zo5 hlt (bk:=y.bk) (sl:=y.sl) (by omega) (by omega) h2 h.good
 rw [h.eq] at this; exact this
theorem Zln {b b':List Nat} {bk sl:Nat} (hl:b'.length=b.length) (h:∀ i,i<24→gB b' (bk * 256+sl * 24+i)=gB b (bk * 256+sl * 24+i)):slotB b' bk sl=slotB b bk sl:=by
 have hlen:(slotB b' bk sl).length=(slotB b bk sl).length:=by simp [slotB,hl]
 refine Zh3 hlen fun k hk=>?_
 have hk24:k<24:=by simp [slotB] at hk; omega
 rw [Zea _ _ _ hk24,Zea _ _ _ hk24]
 exact h k hk24
theorem Zec {b b':List Nat} {y:En} (hl:b'.length=b.length) (hs:slotB b' y.bk y.sl=slotB b y.bk y.sl):Gd b' y↔Gd b y:=by
 have he:enB b' y.bk y.sl=enB b y.bk y.sl:=by unfold enB; rw [hs]
 constructor
 ·exact fun h=>⟨by rw [← hl]; exact h.bk,h.sl,by rw [← hs]; exact h.good,by rw [← he]; exact h.eq⟩
 ·exact fun h=>⟨by rw [hl]; exact h.bk,h.sl,by rw [hs]; exact h.good,by rw [he]; exact h.eq⟩
theorem gd_uniq {b:List Nat} {y z:En} (hy:Gd b y) (hz:Gd b z) (h1:y.bk=z.bk) (h2:y.sl=z.sl):y=z:=by
 rw [← hy.eq,← hz.eq,h1,h2]
theorem FI.erase {b b':List Nat} {N:Nat} {V:Ym} (h:FI b N V) {e:Nat} (hs:Jt b e) (he:e<b.length / 256) (hl:b'.length=b.length) (hlt:∀ z∈b',z<256) (hout:∀ j,(j<e * 256∨e * 256+256≤j)→gB b' j=gB b j) (hcov:∀ i,i<256→gB b (e * 256+i) ||| gB b' (e * 256+i)=gB b' (e * 256+i)) :
    FI b' N V∧Jt b' e∧(∀ y,Gd b' y→Gd b y)∧(∀ y,Gd b y→y.bk≠e→Gd b' y):=by
  have hlm:=h.lm
  have hsame:∀ bk sl,sl<10→bk≠e→slotB b' bk sl=slotB b bk sl:=fun bk sl h2 h3=>Zln hl fun i hi=>hout _ (by omega)
  have hsl:∀ sl,sl<10→Cov (slotB b e sl) (slotB b' e sl):=fun sl h2=>by
    have e1:=VR (b:=b) (bk:=e) (sl:=sl) (by omega)
    have e2:=VR (b:=b') (bk:=e) (sl:=sl) (by omega)
    refine Cov.of (by omega) fun k hk=>?_
    rw [Zea _ _ _ (by omega),Zea _ _ _ (by omega),show e * 256+sl * 24+k=e * 256+(sl * 24+k) by omega]
    exact hcov _ (by omega)
  have hback:∀ y,Gd b' y→Gd b y:=fun y hy=>by
    by_cases hy2:y.bk=e
    · obtain ⟨key,num,vs,hv,hc⟩:=h.slo y.bk y.sl (by rw [← hl]; exact hy.bk) hy.sl
      have h1:=hsl y.sl hy.sl
      rw [← hy2] at h1
      have h2:=Zne hv (hc.trans h1) (VJ hlt _ _) hy.good
      refine (Zec hl ?_).1 hy
      rw [h2] at h1 ⊢
      exact (h1.antisymm hc).symm
    · exact (Zec hl (hsame _ _ hy.sl hy2)).1 hy
  have hfor:∀ y,Gd b y→y.bk≠e→Gd b' y:=fun y hy h2=>(Zec hl (hsame _ _ hy.sl h2)).2 hy
  refine ⟨⟨hlt,by rw [hl]; exact hlm,by rw [hl]; exact h.nb,fun bk sl h1 h2=>?_,fun y hy=>h.num y (hback y hy),fun y z hy hz=>h.uq y z (hback y hy) (hback z hz),fun k hk y hy=>h.topN k hk y (hback y hy),fun k m v hk=>?_⟩,fun y hy h2=>?_,hback,hfor⟩
  · obtain ⟨key,num,vs,hv,hc⟩:=h.slo bk sl (by rw [← hl]; exact h1) h2
    refine ⟨key,num,vs,hv,?_⟩
    by_cases e2:bk=e
    · subst e2; exact hc.trans (hsl sl h2)
    · rw [hsame bk sl h2 e2]; exact hc
  · obtain ⟨⟨y,hy,hy1,hy2,hy3⟩,hmax⟩:=h.topS k m v hk
    refine ⟨?_,fun y hy=>hmax y (hback y hy)⟩
    by_cases e2:y.bk=e
    · obtain ⟨z,hz,hz1,hz2,hz3⟩:=hs y hy e2
      have hz4:=hmax z hz (by omega)
      refine ⟨z,hfor z hz hz1,by omega,by omega,?_⟩
      rw [← hy3]
      exact h.uq z y hz hy hz2 (by omega)
    · exact ⟨y,hfor y hy e2,hy1,hy2,hy3⟩
  · obtain ⟨z,hz,hz1,hz2,hz3⟩:=hs y (hback y hy) h2
    exact ⟨z,hfor z hz hz1,hz1,hz2,hz3⟩
structure Wr (b b':List Nat) (bk sl key num:Nat) (vs:List Nat):Prop where
  hbk:bk<b.length / 256
  hsl:sl<10
  em:Yw (slotB b bk sl)=0
  v:EnV key num vs
  len:b'.length=b.length
  lt:∀ z∈b',z<256
  out:∀ j,(j<bk * 256+sl * 24∨bk * 256+sl * 24+24≤j)→gB b' j=gB b j
  cov:Cov (packP key num vs) (slotB b' bk sl)
theorem Wr.other {b b':List Nat} {bk sl key num:Nat} {vs:List Nat} (h:Wr b b' bk sl key num vs) {bk2 sl2:Nat} (h2:sl2<10) (hne:¬ (bk2=bk∧sl2=sl)):slotB b' bk2 sl2=slotB b bk2 sl2:=by
 have:=h.hsl
 refine Zln h.len fun i hi=>h.out _ ?_
 rcases Nat.lt_trichotomy bk2 bk with h3 | h3 | h3
 ·omega
 ·rcases Nat.lt_trichotomy sl2 sl with h4 | h4 | h4
  ·omega
  ·exact absurd ⟨h3,h4⟩ hne
  ·omega
 ·omega
theorem Wr.gd {b b':List Nat} {N:Nat} {V:Ym} {bk sl key num:Nat} {vs:List Nat} (hf:FI b N V) (h:Wr b b' bk sl key num vs):(∀ y,Gd b y→Gd b' y∧¬ (y.bk=bk∧y.sl=sl))∧(∀ y,Gd b' y→Gd b y∨(y=⟨key,num,vs,bk,sl⟩∧slotB b' bk sl=packP key num vs))∧(slotB b' bk sl=packP key num vs→Gd b' ⟨key,num,vs,bk,sl⟩):=by
 have hlm:=hf.lm
 have hbk:=h.hbk
 have hsl:=h.hsl
 have hlen:=VR (b:=b) (bk:=bk) (sl:=sl) (by omega)
 have hbad:=Zjy hlen (VJ hf.lt _ _) h.em
 have heq:slotB b' bk sl=packP key num vs→enB b' bk sl=⟨key,num,vs,bk,sl⟩:=fun e=>by
  unfold enB; rw [e,Znd h.v,pack_num h.v,pack_val h.v]
 refine ⟨fun y hy=>?_,fun y hy=>?_,fun e=>⟨by rw [h.len]; exact h.hbk,h.hsl,by simp only; rw [e]; exact Zrx h.v,heq e⟩⟩
 ·have hne:¬ (y.bk=bk∧y.sl=sl):=fun ⟨e1,e2⟩=>by
   have:=hy.good
   rw [e1,e2,hbad] at this; cases this
  exact ⟨(Zec h.len (h.other hy.sl hne)).2 hy,hne⟩
 ·by_cases hne:y.bk=bk∧y.sl=sl
  ·obtain ⟨e1,e2⟩:=hne
   have hg:=hy.good
   rw [e1,e2] at hg
   have:=Zne h.v h.cov (VJ h.lt _ _) hg
   refine .inr ⟨?_,this⟩
   have he:=hy.eq
   rw [e1,e2,heq this] at he
   exact he.symm
  ·exact .inl ((Zec h.len (h.other hy.sl hne)).1 hy)
theorem Wr.slo {b b':List Nat} {N:Nat} {V:Ym} {bk sl key num:Nat} {vs:List Nat} (hf:FI b N V) (h:Wr b b' bk sl key num vs):∀ bk sl,bk<b'.length / 256→sl<10→∃ key num vs,EnV key num vs∧Cov (packP key num vs) (slotB b' bk sl):=fun bk2 sl2 h1 h2=>by
 by_cases e:bk2=bk∧sl2=sl
 ·obtain ⟨rfl,rfl⟩:=e
  exact ⟨key,num,vs,h.v,h.cov⟩
 ·rw [h.other h2 e]
  exact hf.slo bk2 sl2 (by rw [← h.len]; exact h1) h2
theorem Wr.copy {b b':List Nat} {N:Nat} {V:Ym} {bk sl key num:Nat} {vs:List Nat} (hf:FI b N V) (h:Wr b b' bk sl key num vs) (hV:V key=some (num,vs)):FI b' N V:=by
 obtain ⟨g1,g2,g3⟩:=h.gd hf
 obtain ⟨⟨y0,a1,a2,a3,a4⟩,a5⟩:=hf.topS key num vs hV
 have hy:∀ y,Gd b' y→∃ x,Gd b x∧x.key=y.key∧x.num=y.num∧x.val=y.val:=fun y hy=>by
  rcases g2 y hy with h1 | ⟨rfl,_⟩
  ·exact ⟨y,h1,rfl,rfl,rfl⟩
  ·exact ⟨y0,a1,a2,a3,a4⟩
 refine ⟨h.lt,by rw [h.len]; exact hf.lm,by rw [h.len]; exact hf.nb,h.slo hf,fun y h1=>?_,fun y z h1 h2 e1 e2=>?_,fun k hk y h1 e1=>?_,fun k m v hk=>?_⟩
 ·obtain ⟨x,x1,x2,x3,x4⟩:=hy y h1
  rw [← x3]; exact hf.num x x1
 ·obtain ⟨x,x1,x2,x3,x4⟩:=hy y h1
  obtain ⟨u,u1,u2,u3,u4⟩:=hy z h2
  rw [← x4,← u4]
  exact hf.uq x u x1 u1 (by omega) (by omega)
 ·obtain ⟨x,x1,x2,x3,x4⟩:=hy y h1
  exact hf.topN k hk x x1 (by omega)
 ·obtain ⟨⟨y,b1,b2,b3,b4⟩,b5⟩:=hf.topS k m v hk
  refine ⟨⟨y,(g1 y b1).1,b2,b3,b4⟩,fun z h1 e1=>?_⟩
  obtain ⟨x,x1,x2,x3,x4⟩:=hy z h1
  rw [← x3]; exact b5 x x1 (by omega)
abbrev Zc4 (V:Ym) (key num:Nat) (vs:List Nat):Ym:=fun k=>if k=key then some (num,vs) else V k
theorem Wr.new {b b':List Nat} {N:Nat} {V:Ym} {bk sl key:Nat} {vs:List Nat} (hf:FI b N V) (h:Wr b b' bk sl key (N+1) vs) (he:slotB b' bk sl=packP key (N+1) vs):FI b' (N+1) (Zc4 V key (N+1) vs):=by
 obtain ⟨g1,g2,g3⟩:=h.gd hf
 refine ⟨h.lt,by rw [h.len]; exact hf.lm,by rw [h.len]; exact hf.nb,h.slo hf,fun y h1=>?_,fun y z h1 h2 e1 e2=>?_,fun k hk y h1 e1=>?_,fun k m v hk=>?_⟩
 ·rcases g2 y h1 with h1 | ⟨rfl,_⟩
  ·have:=hf.num y h1; omega
  ·exact Nat.le_refl _
 ·rcases g2 y h1 with h1 | ⟨rfl,_⟩ <;> rcases g2 z h2 with h2 | ⟨rfl,_⟩
  ·exact hf.uq y z h1 h2 e1 e2
  ·have:=hf.num y h1; simp only at e2; omega
  ·have:=hf.num z h2; simp only at e2; omega
  ·rfl
 ·simp only [Zc4] at hk
  split at hk
  ·cases hk
  ·rename_i hne
   rcases g2 y h1 with h1 | ⟨rfl,_⟩
   ·exact hf.topN k hk y h1 e1
   ·exact hne e1.symm
 ·simp only [Zc4] at hk
  split at hk
  ·rename_i e
   cases hk
   refine ⟨⟨_,g3 he,e.symm,rfl,rfl⟩,fun y h1 _=>?_⟩
   rcases g2 y h1 with h1 | ⟨rfl,_⟩
   ·have:=hf.num y h1; omega
   ·exact Nat.le_refl _
  ·rename_i hne
   obtain ⟨⟨y,b1,b2,b3,b4⟩,b5⟩:=hf.topS k m v hk
   refine ⟨⟨y,(g1 y b1).1,b2,b3,b4⟩,fun z h1 e1=>?_⟩
   rcases g2 z h1 with h1 | ⟨rfl,_⟩
   ·exact b5 z h1 e1
   ·exact absurd e1.symm hne
theorem Wr.torn {b b':List Nat} {N:Nat} {V:Ym} {bk sl key num:Nat} {vs:List Nat} (hf:FI b N V) (h:Wr b b' bk sl key num vs) (he:slotB b' bk sl≠packP key num vs):FI b' N V:=by
 obtain ⟨g1,g2,g3⟩:=h.gd hf
 have hy:∀ y,Gd b' y→Gd b y:=fun y hy=>by
  rcases g2 y hy with h1 | ⟨rfl,h2⟩
  ·exact h1
  ·exact absurd h2 he
 refine ⟨h.lt,by rw [h.len]; exact hf.lm,by rw [h.len]; exact hf.nb,h.slo hf,fun y h1=>hf.num y (hy y h1),fun y z h1 h2=>hf.uq y z (hy y h1) (hy z h2),fun k hk y h1=>hf.topN k hk y (hy y h1),fun k m v hk=>?_⟩
 obtain ⟨⟨y,b1,b2,b3,b4⟩,b5⟩:=hf.topS k m v hk
 exact ⟨⟨y,(g1 y b1).1,b2,b3,b4⟩,fun z h1=>b5 z (hy z h1)⟩
theorem VA (k:Nat) (x:En):∀ P:List En,YY k (Za3 x P)=if k=x.key then some x else YY k P
  | []=>by simp only [Za3,YY]
  | y::l=>by
    unfold Za3
    by_cases e:x.key=y.key
    · rw [if_pos e]
      simp only [YY]
      by_cases e2:k=x.key
      · rw [if_pos e2,if_pos e2]
      · rw [if_neg e2,if_neg e2,if_neg (by omega)]
    · rw [if_neg e]
      simp only [YY]
      rw [VA k x l]
      by_cases e2:k=y.key
      · rw [if_pos e2,if_neg (by omega),if_pos e2]
      · rw [if_neg e2,if_neg e2]
theorem JY {x:En}:∀ {P:List En},YY x.key P=none→(Za3 x P).map En.key=P.map En.key++[x.key]
  | [],_=>rfl
  | y::l,h=>by
    unfold YY at h
    unfold Za3
    by_cases e:x.key=y.key
    · rw [if_pos e] at h; cases h
    · rw [if_neg e] at h ⊢
      simp [JY h]
theorem Zjz {k:Nat}:∀ {P:List En},YY k P=none→k ∉ P.map En.key:=fun h hm=>by
 have:=Zd9 hm
 rw [h] at this; cases this
theorem Zh6 {x:En} {P:List En} (h:(P.map En.key).Nodup):((Za3 x P).map En.key).Nodup:=by
 cases e:YY x.key P with
 | some y=>rw [Zae (by rw [e]; rfl)]; exact h
 | none =>
  rw [JY e,List.nodup_append]
  refine ⟨h,by simp,fun a ha c hc e2=>?_⟩
  simp at hc
  subst hc; subst e2
  exact Zjz e ha
structure ScOk (b:List Nat) (but:Int) (seen:Nat→Nat→Prop) (n0:Nat) (s:Nat × List En):Prop where
  nd:(s.2.map En.key).Nodup
  so:∀ k x,YY k s.2=some x→Gd b x∧seen x.bk x.sl∧(x.bk:Int)≠but∧x.key=k∧∀ y,Gd b y→seen y.bk y.sl→(y.bk:Int)≠but→y.key=k→y.num≤x.num
  no:∀ k,YY k s.2=none→∀ y,Gd b y→seen y.bk y.sl→(y.bk:Int)≠but→y.key≠k
  n0:n0≤s.1
  nu:∀ y,Gd b y→seen y.bk y.sl→(y.bk:Int)≠but→y.num≤s.1
theorem ScOk.congr {b:List Nat} {but:Int} {seen seen':Nat→Nat→Prop} {n0:Nat} {s:Nat × List En} (h:ScOk b but seen n0 s) (he:∀ bk sl,sl<10→(seen bk sl↔seen' bk sl)):ScOk b but seen' n0 s:=by
 refine ⟨h.nd,fun k x hx=>?_,fun k hk y hy h1=>h.no k hk y hy ((he _ _ hy.sl).2 h1),h.n0,fun y hy h1=>h.nu y hy ((he _ _ hy.sl).2 h1)⟩
 obtain ⟨a1,a2,a3,a4,a5⟩:=h.so k x hx
 exact ⟨a1,(he _ _ a1.sl).1 a2,a3,a4,fun y hy h1=>a5 y hy ((he _ _ hy.sl).2 h1)⟩
theorem ScOk.step {b:List Nat} {but:Int} {seen:Nat→Nat→Prop} {n0:Nat} {s:Nat × List En} (h:ScOk b but seen n0 s) {bk sl:Nat} (hbk:bk<b.length / 256) (hsl:sl<10):ScOk b but (fun p q=>seen p q∨(p=bk∧q=sl)) n0 (VU b but bk s sl):=by
 by_cases hc:W1 (slotB b bk sl)=true∨(bk:Int)=but
 ·rw [JN hc]
  have hno:∀ y,Gd b y→(y.bk:Int)≠but→¬ (y.bk=bk∧y.sl=sl):=fun y hy h1 ⟨e1,e2⟩=>by
   rcases hc with hc | hc
   ·have:=hy.good
    rw [e1,e2,hc] at this; cases this
   ·rw [e1] at h1; exact h1 hc
  refine ⟨h.nd,fun k x hx=>?_,fun k hk y hy h1 h2=>?_,h.n0,fun y hy h1 h2=>?_⟩
  ·obtain ⟨a1,a2,a3,a4,a5⟩:=h.so k x hx
   refine ⟨a1,.inl a2,a3,a4,fun y hy h1 h2=>?_⟩
   rcases h1 with h1 | h1
   ·exact a5 y hy h1 h2
   ·exact absurd h1 (hno y hy h2)
  ·rcases h1 with h1 | h1
   ·exact h.no k hk y hy h1 h2
   ·exact absurd h1 (hno y hy h2)
  ·rcases h1 with h1 | h1
   ·exact h.nu y hy h1 h2
   ·exact absurd h1 (hno y hy h2)
 ·have hb:W1 (slotB b bk sl)=false:=by
   cases e:W1 (slotB b bk sl) with
   | false=>rfl
   | true=>exact absurd (.inl e) hc
  have hne:(bk:Int)≠but:=fun e=>hc (.inr e)
  rw [Vy hb hne]
  obtain ⟨x0,hx0⟩:∃ x,enB b bk sl=x:=⟨_,rfl⟩
  have hxb:x0.bk=bk:=by rw [← hx0]; rfl
  have hxs:x0.sl=sl:=by rw [← hx0]; rfl
  have hg:Gd b x0:=⟨by rw [hxb]; exact hbk,by rw [hxs]; exact hsl,by rw [hxb,hxs]; exact hb,by rw [hxb,hxs]; exact hx0⟩
  rw [hx0]
  have hyx:∀ y,Gd b y→(y.bk=bk∧y.sl=sl)→y=x0:=fun y hy ⟨e1,e2⟩=>gd_uniq hy hg (by omega) (by omega)
  cases hnw:XI x0 s.2 with
  | true =>
   simp only [if_true]
   have hold:∀ y,Gd b y→seen y.bk y.sl→(y.bk:Int)≠but→y.key=x0.key→y.num≤x0.num:=fun y hy h1 h2 h3=>by
    unfold XI at hnw
    cases hg2:YY x0.key s.2 with
    | none=>exact absurd h3 (h.no _ hg2 y hy h1 h2)
    | some o =>
     rw [hg2] at hnw
     obtain ⟨a1,a2,a3,a4,a5⟩:=h.so _ o hg2
     have:=a5 y hy h1 h2 h3
     have:=of_decide_eq_true hnw
     omega
   refine ⟨Zh6 h.nd,fun k x hx=>?_,fun k hk y hy h1 h2=>?_,?_,fun y hy h1 h2=>?_⟩
   ·rw [VA] at hx
    split at hx
    ·rename_i e
     cases hx
     refine ⟨hg,.inr ⟨hxb,hxs⟩,by rw [hxb]; exact hne,e.symm,fun y hy h1 h2 h3=>?_⟩
     rcases h1 with h1 | h1
     ·exact hold y hy h1 h2 (by omega)
     ·rw [hyx y hy h1]; exact Nat.le_refl _
    ·rename_i e
     obtain ⟨a1,a2,a3,a4,a5⟩:=h.so k x hx
     refine ⟨a1,.inl a2,a3,a4,fun y hy h1 h2 h3=>?_⟩
     rcases h1 with h1 | h1
     ·exact a5 y hy h1 h2 h3
     ·rw [hyx y hy h1] at h3; exact absurd h3.symm e
   ·rw [VA] at hk
    split at hk
    ·cases hk
    ·rename_i e
     rcases h1 with h1 | h1
     ·exact h.no k hk y hy h1 h2
     ·rw [hyx y hy h1]; exact fun e2=>e e2.symm
   ·exact Nat.le_trans h.n0 (Nat.le_max_left _ _)
   ·rcases h1 with h1 | h1
    ·exact Nat.le_trans (h.nu y hy h1 h2) (Nat.le_max_left _ _)
    ·rw [hyx y hy h1]; exact Nat.le_max_right _ _
  | false =>
   simp only [Bool.false_eq_true,if_false]
   obtain ⟨o,ho⟩:∃ o,YY x0.key s.2=some o:=by
    cases e:YY x0.key s.2 with
    | some o=>exact ⟨o,rfl⟩
    | none=>unfold XI at hnw; rw [e] at hnw; cases hnw
   have hle:x0.num≤o.num:=by
    unfold XI at hnw; rw [ho] at hnw
    have:=of_decide_eq_false hnw
    omega
   refine ⟨h.nd,fun k x hx=>?_,fun k hk y hy h1 h2=>?_,Nat.le_trans h.n0 (Nat.le_max_left _ _),fun y hy h1 h2=>?_⟩
   ·obtain ⟨a1,a2,a3,a4,a5⟩:=h.so k x hx
    refine ⟨a1,.inl a2,a3,a4,fun y hy h1 h2 h3=>?_⟩
    rcases h1 with h1 | h1
    ·exact a5 y hy h1 h2 h3
    ·have e:=hyx y hy h1
     subst e
     rw [h3,hx] at ho
     cases ho
     exact hle
   ·rcases h1 with h1 | h1
    ·exact h.no k hk y hy h1 h2
    ·have e:=hyx y hy h1
     subst e
     intro e2
     rw [e2,hk] at ho; cases ho
   ·rcases h1 with h1 | h1
    ·exact Nat.le_trans (h.nu y hy h1 h2) (Nat.le_max_left _ _)
    ·rw [hyx y hy h1]; exact Nat.le_max_right _ _
theorem ScOk.blk {b:List Nat} {but:Int} {seen:Nat→Nat→Prop} {n0:Nat} {s:Nat × List En} (h:ScOk b but seen n0 s) {bk:Nat} (hbk:bk<b.length / 256):∀ k,k≤10→ScOk b but (fun p q=>seen p q∨(p=bk∧q<k)) n0 (WW b but bk s k)
  | 0,_=>h.congr fun p q _=>⟨.inl,fun h2=>h2.resolve_right fun h3=>absurd h3.2 (Nat.not_lt_zero _)⟩
  | k+1,hk=>by
    rw [Xo]
    refine ((h.blk hbk k (by omega)).step hbk (show k<10 by omega)).congr fun p q _=>?_
    constructor
    · rintro ((h3 | h3) | h3)
      · exact .inl h3
      · exact .inr ⟨h3.1,by omega⟩
      · exact .inr ⟨h3.1,by omega⟩
    · rintro (h3 | h3)
      · exact .inl (.inl h3)
      · by_cases e:q=k
        · exact .inr ⟨h3.1,e⟩
        · exact .inl (.inr ⟨h3.1,by omega⟩)
theorem ScOk.all (b:List Nat) (but:Int) (n0:Nat):∀ k,k≤b.length / 256→ScOk b but (fun p _=>p<k) n0 (Zgd b but n0 k)
  | 0,_=>⟨List.nodup_nil,(fun k x hx=>by cases hx),fun k _ y _ h1=>absurd h1 (Nat.not_lt_zero _),Nat.le_refl _,fun y _ h1=>absurd h1 (Nat.not_lt_zero _)⟩
  | k+1,hk=>by
    rw [Zac]
    refine ((ScOk.all b but n0 k (by omega)).blk (show k<b.length / 256 by omega) 10 (Nat.le_refl _)).congr fun p q hq=>?_
    constructor
    · rintro (h | h)
      · omega
      · omega
    · intro h
      by_cases e:p=k
      · exact .inr ⟨e,hq⟩
      · exact .inl (by omega)
theorem Zlo (b:List Nat) (but:Int) (n0:Nat):ScOk b but (fun p _=>p<b.length / 256) n0 (VQ b but n0):=ScOk.all b but n0 _ (Nat.le_refl _)
theorem Zh7 {b:List Nat} {e:Nat} (he:e<b.length / 256):Vz b e=true→Jt b e:=fun h y hy hye=>by
 have hs:=Zlo b (e:Int) 0
 unfold Vz Zb0 at h
 rw [List.all_eq_true] at h
 have h1:=h y.sl (List.mem_range.2 hy.sl)
 unfold XP at h1
 have hg:=hy.good
 rw [hye] at hg
 have he2:=hy.eq
 rw [hye] at he2
 rw [hg,Bool.false_or,he2] at h1
 have h2:XI y (VQ b e 0).2=false:=by
  cases e2:XI y (VQ b e 0).2 with
  | false=>rfl
  | true=>rw [e2] at h1; cases h1
 unfold XI at h2
 cases e2:YY y.key (VQ b e 0).2 with
 | none=>rw [e2] at h2; cases h2
 | some o =>
  rw [e2] at h2
  obtain ⟨a1,a2,a3,a4,a5⟩:=hs.so _ o e2
  have:=of_decide_eq_false h2
  exact ⟨o,a1,fun e3=>a3 (by rw [e3]),a4,by omega⟩
theorem Zry {b:List Nat} {e:Nat} (he:e<b.length / 256) (h:Jt b e):Vz b e=true:=by
 have hs:=Zlo b (e:Int) 0
 unfold Vz Zb0
 rw [List.all_eq_true]
 intro sl hsl
 have hsl:=List.mem_range.1 hsl
 unfold XP
 cases hb:W1 (slotB b e sl) with
 | true=>rfl
 | false =>
  obtain ⟨z,hz,z1,z2,z3⟩:=h (enB b e sl) ⟨he,hsl,hb,rfl⟩ rfl
  have:XI (enB b e sl) (VQ b e 0).2=false:=by
   unfold XI
   cases e2:YY (enB b e sl).key (VQ b e 0).2 with
   | none=>exact absurd z2 (hs.no _ e2 z hz hz.bk (by omega))
   | some o =>
    obtain ⟨a1,a2,a3,a4,a5⟩:=hs.so _ o e2
    have:=a5 z hz hz.bk (by omega) z2
    exact decide_eq_false (by omega)
  rw [this]; rfl
end Iv
namespace Iv
structure SI (b:List Nat) (P:List En) (num fb:Nat) (V:Ym):Prop where
  fi:FI b num V
  nd:(P.map En.key).Nodup
  so:∀ k x,YY k P=some x→Gd b x∧x.key=k∧V k=some (x.num,x.val)
  no:∀ k,YY k P=none→V k=none
  hfb:fb<b.length / 256
  em:∀ i,i<256→gB b (fb * 256+i)=255
theorem Zgs {b:List Nat} (hlt:∀ z∈b,z<256) {fb sl c:Nat} (hc:c≤sl) (h:∀ i,c * 24≤i→i<256→gB b (fb * 256+i)=255) (hsl:sl<10):Yw (slotB b fb sl)=0:=by
 refine (Jd (VJ hlt fb sl)).2 fun k hk=>?_
 have h24:k<24:=by simp [slotB] at hk; omega
 rw [Zea _ _ _ h24,show fb * 256+sl * 24+k=fb * 256+(sl * 24+k) by omega]
 exact h _ (by omega) (by omega)
theorem em_no {b:List Nat} (hlt:∀ z∈b,z<256) {fb:Nat} (h:∀ i,i<256→gB b (fb * 256+i)=255) {y:En} (hy:Gd b y):y.bk≠fb:=fun e=>by
 have h1:=hy.bk
 have h2:=hy.sl
 have h0:=Zgs hlt (fb:=fb) (Nat.zero_le y.sl) (fun i _ hi=>h i hi) h2
 have:=Zjy (VR (b:=b) (bk:=fb) (sl:=y.sl) (by omega)) (VJ hlt _ _) h0
 have h3:=hy.good
 rw [e,this] at h3; cases h3
theorem Zh8 {b:List Nat} (hlt:∀ z∈b,z<256) {fb:Nat} (h:∀ i,i<256→gB b (fb * 256+i)=255):Jt b fb:=fun y hy e=>absurd e (em_no hlt h hy)
theorem em_iff {b:List Nat} (hlt:∀ z∈b,z<256) {bk:Nat} (hbk:bk<b.length / 256):Za4 b bk↔∀ i,i<256→gB b (bk * 256+i)=255:=by
 unfold Za4
 rw [Jd (fun z hz=>hlt z (List.mem_of_mem_drop (List.mem_of_mem_take hz)))]
 have hl:((b.drop (bk * 256)).take 256).length=256:=by simp; omega
 rw [hl]
 constructor
 ·exact fun h i hi=>by rw [← V7 b (bk * 256) 256 i hi]; exact h i hi
 ·exact fun h i hi=>by rw [V7 b (bk * 256) 256 i hi]; exact h i hi
theorem wr_of {f g:Fl} {e:Int} {bk sl key num:Nat} {vs:List Nat} (hbk:bk<f.b.length / 256) (hsl:sl<10) (hem:Yw (slotB f.b bk sl)=0) (hv:EnV key num vs) (h:Wrote f (bk * 256+sl * 24) (packP key num vs) g e):Wr f.b g.b bk sl key num vs :=
  ⟨hbk,hsl,hem,hv,h.len,h.ok.bs,h.out,h.cov⟩
structure MI (f0:Fl) (P0:List En) (num fb v:Nat) (V:Ym) (ks:List Nat) (i:Nat) (s:(Fl × List En) × Nat × Int):Prop where
  ok:s.1.1.Ok
  len:s.1.1.b.length=f0.b.length
  st:s.1.1.st=f0.st
  er:s.1.1.er=f0.er
  pr:s.1.1.pr≤f0.pr+24 * i
  fi:FI s.1.1.b num V
  keys:s.1.2.map En.key=P0.map En.key
  so:∀ k x,YY k s.1.2=some x→Gd s.1.1.b x∧x.key=k∧V k=some (x.num,x.val)
  sp:∀ y,Gd s.1.1.b y→y.bk=fb→∃ z,Gd s.1.1.b z∧z.bk=v∧z.key=y.key∧z.num=y.num
  res:(s.2.2=0∧s.1.1.down=false∧s.2.1+X5 s.1.2 v=X5 P0 v∧(∀ i,s.2.1 * 24≤i→i<256→gB s.1.1.b (fb * 256+i)=255)∧∀ k∈ks.take i,∀ x,YY k s.1.2=some x→x.bk≠v)∨(s.2.2=9∧s.1.1.down=true)
  no:f0.left = -1→s.2.2=0∧s.1.1.left = -1
theorem mem_take_succ {ks:List Nat} {i k:Nat} (hk:ks[i]? = some k) {q:Nat} (h:q∈ks.take (i+1)):q∈ks.take i∨q=k:=by
 rw [take_at hk] at h
 rcases List.mem_append.1 h with h | h
 ·exact .inl h
 ·exact .inr (List.mem_singleton.1 h)
theorem MI.step {f0:Fl} {P0:List En} {num fb v:Nat} {V:Ym} {ks:List Nat} {i:Nat} {s:(Fl × List En) × Nat × Int} (h:MI f0 P0 num fb v V ks i s) (hpr:f0.pr+24 * i+24<4611686018427387904) (hfb:fb<f0.b.length / 256) (hv:v≠fb) (hc:X5 P0 v<10) {k:Nat} (hk:ks[i]? = some k):MI f0 P0 num fb v V ks (i+1) (JX fb v s k):=by
 have hp:=h.pr
 have stay:((s.2.2=0∧∀ x,YY k s.1.2=some x→x.bk≠v)∨s.2.2=9)→MI f0 P0 num fb v V ks (i+1) s:=fun hx=>by
  refine ⟨h.ok,h.len,h.st,h.er,by omega,h.fi,h.keys,h.so,h.sp,?_,h.no⟩
  rcases h.res with ⟨r1,r2,r3,r4,r5⟩ | r
  ·refine .inl ⟨r1,r2,r3,r4,fun q hq x hx2=>?_⟩
   rcases mem_take_succ hk hq with hq | rfl
   ·exact r5 q hq x hx2
   ·rcases hx with hx | hx
    ·exact hx.2 x hx2
    ·rw [r1] at hx; cases hx
  ·exact .inr r
 unfold JX
 rcases h.res with ⟨r1,r2,r3,r4,r5⟩ | ⟨r1,r2⟩
 ·rw [if_neg (by rw [r1]; decide)]
  cases hg:YY k s.1.2 with
  | none=>exact stay (.inl ⟨r1,fun x hx=>by rw [hg] at hx; cases hx⟩)
  | some x =>
   simp only
   by_cases hxv:x.bk=v
   ·rw [if_neg (by rw [hxv]; simp)]
    obtain ⟨a1,a2,a3⟩:=h.so k x hg
    have hxe:=a1.ok h.fi.lt h.fi.nb
    have hxg:YY x.key s.1.2=some x:=by rw [a2]; exact hg
    have hcp:=Zlk (z:=⟨x.key,x.num,x.val,fb,s.2.1⟩) hxv (show fb≠v from fun e=>hv e.symm) hxg
    have hsl:s.2.1<9:=by omega
    have hlm:=h.fi.lm
    have hlen:=h.len
    have hem:=Zgs h.fi.lt (fb:=fb) (Nat.le_refl s.2.1) r4 (by omega)
    have hplt:=WE (num:=x.num) (show x.key<65536 by have:=hxe.key; omega) hxe.val hxe.len
    have hw:=wrote h.ok r2 (o:=fb * 256+s.2.1 * 24) (XO (key:=x.key) (num:=x.num) hxe.len) hplt (by omega) (by omega) hem
    have hwr:=wr_of (by omega) (by omega) hem hxe.v hw
    obtain ⟨g1,g2,g3⟩:=hwr.gd h.fi
    obtain ⟨r,hr⟩:∃ r,Ya s.1.1 (fb * 256+s.2.1 * 24) (packP x.key x.num x.val)=r:=⟨_,rfl⟩
    rw [hr] at hw hwr g1 g2 g3 ⊢
    have hfi:=hwr.copy h.fi (by rw [a2]; exact a3)
    have hpr2:=hw.pr
    have hsp2:∀ y,Gd r.1.b y→y.bk=fb→∃ z,Gd r.1.b z∧z.bk=v∧z.key=y.key∧z.num=y.num:=fun y hy hyb=>by
     rcases g2 y hy with h1 | ⟨rfl,_⟩
     ·obtain ⟨z,z1,z2⟩:=h.sp y h1 hyb
      exact ⟨z,(g1 z z1).1,z2⟩
     ·exact ⟨x,(g1 x a1).1,hxv,rfl,rfl⟩
    by_cases he:r.2=0
    ·rw [if_neg (by rw [he]; simp)]
     have hres:r.1.down=false∧slotB r.1.b fb s.2.1=packP x.key x.num x.val:=by
      rcases hw.res with q | q
      ·exact q.2
      ·rw [he] at q; exact absurd q.1 (by decide)
     have hgx:=g3 hres.2
     refine ⟨hw.ok,by rw [← h.len]; exact hw.len,by rw [← h.st]; exact hw.st,by rw [← h.er]; exact hw.er,by simp only; omega,hfi,?_,fun q x2 hx2=>?_,hsp2,.inl ⟨rfl,hres.1,by simp only; omega,fun j h1 h2=>?_,fun q hq x2 hx2=>?_⟩,fun h0=>⟨rfl,(hw.no (h.no h0).2).2⟩⟩
     ·simp only
      rw [Zae (by simp only; rw [hxg]; rfl)]; exact h.keys
     ·simp only at hx2
      rw [VA] at hx2
      simp only at hx2
      split at hx2
      ·rename_i e
       cases hx2
       exact ⟨hgx,e.symm,by rw [e,a2]; exact a3⟩
      ·obtain ⟨b1,b2,b3⟩:=h.so q x2 hx2
       exact ⟨(g1 x2 b1).1,b2,b3⟩
     ·simp only at h1
      have:=hw.out (fb * 256+j) (by omega)
      simp only
      rw [this]
      exact r4 j (by omega) h2
     ·simp only at hx2
      rw [VA] at hx2
      simp only at hx2
      split at hx2
      ·cases hx2
       exact fun e=>hv e.symm
      ·rename_i e
       rcases mem_take_succ hk hq with hq | rfl
       ·exact r5 q hq x2 hx2
       ·exact absurd a2.symm e
    ·rw [if_pos he]
     have hres:r.2=9∧r.1.down=true:=by
      rcases hw.res with q | q
      ·exact absurd q.1 he
      ·exact q
     exact ⟨hw.ok,by rw [← h.len]; exact hw.len,by rw [← h.st]; exact hw.st,by rw [← h.er]; exact hw.er,by simp only; omega,hfi,h.keys,fun q x2 hx2=>by
      obtain ⟨b1,b2,b3⟩:=h.so q x2 hx2
      exact ⟨(g1 x2 b1).1,b2,b3⟩,hsp2,.inr hres,fun h0=>absurd (hw.no (h.no h0).2).1 he⟩
   ·rw [if_pos hxv]
    exact stay (.inl ⟨r1,fun x2 hx2=>by rw [hg] at hx2; cases hx2; exact hxv⟩)
 ·rw [if_pos (by rw [r1]; decide)]
  exact stay (.inr r1)
theorem MI.all {f0:Fl} {P0:List En} {num fb v:Nat} {V:Ym} {ks:List Nat} (h:MI f0 P0 num fb v V ks 0 ((f0,P0),0,0)) (hpr:f0.pr+24 * ks.length+24<4611686018427387904) (hfb:fb<f0.b.length / 256) (hv:v≠fb) (hc:X5 P0 v<10):∀ i,i≤ks.length→MI f0 P0 num fb v V ks i (Zad fb v ks f0 P0 i)
  | 0,_=>h
  | i+1,hi=>by
    obtain ⟨k,hk⟩:=get_some (show i<ks.length by omega)
    rw [Zgq hk]
    exact (h.all hpr hfb hv hc i (by omega)).step (by omega) hfb hv hc hk
def sumN (g:Nat→Nat):Nat→Nat
  | 0=>0
  | n+1=>sumN g n+g n
theorem Zj0 (x:En) (P:List En):∀ n,sumN (X5 (x::P)) n=sumN (X5 P) n+if x.bk<n then 1 else 0
  | 0=>by simp [sumN]
  | n+1=>by
    simp only [sumN]
    rw [Zj0 x P n]
    simp only [X5,List.countP_cons]
    by_cases e:x.bk=n
    · simp [e]; omega
    · by_cases e2:x.bk<n
      · simp [e,e2,show x.bk<n+1 by omega]; omega
      · simp [e,e2,show ¬ x.bk<n+1 by omega]
theorem Zng {n:Nat}:∀ {P:List En},(∀ x∈P,x.bk<n)→sumN (X5 P) n=P.length
  | [],_=>by
    have:∀ n,sumN (X5 []) n=0:=fun n=>by
      induction n with
      | zero=>rfl
      | succ n ih=>simp only [sumN,ih]; rfl
    rw [this]; rfl
  | x::P,h=>by
    rw [Zj0,Zng fun y hy=>h y (List.mem_cons_of_mem _ hy),if_pos (h x List.mem_cons_self)]; rfl
theorem Zqn {g:Nat→Nat} {c fb:Nat}:∀ n,(∀ i,i<n→i≠fb→c≤g i)→c * n≤sumN g n+if fb<n then c else 0
  | 0,_=>by simp
  | n+1,h=>by
    have ih:=Zqn (g:=g) (c:=c) (fb:=fb) n fun i hi hne=>h i (by omega) hne
    simp only [sumN]
    rw [Nat.mul_succ]
    by_cases e:n=fb
    · subst e
      rw [if_neg (Nat.lt_irrefl _)] at ih
      rw [if_pos (Nat.lt_succ_self _)]
      omega
    · have:=h n (Nat.lt_succ_self _) e
      by_cases e2:fb<n
      · rw [if_pos e2] at ih; rw [if_pos (by omega)]; omega
      · rw [if_neg e2] at ih; rw [if_neg (by omega)]; omega
theorem JO : ∀ {P:List En} {x:En},(P.map En.key).Nodup→x∈P→YY x.key P=some x
  | [],x,_,h=>by cases h
  | y::l,x,hn,h=>by
    simp only [List.map_cons,List.nodup_cons] at hn
    unfold YY
    rcases List.mem_cons.1 h with rfl | h
    · rw [if_pos rfl]
    · rw [if_neg (fun e=>hn.1 (by rw [← e]; exact List.mem_map_of_mem h))]
      exact JO hn.2 h
theorem Zpd {P:List En} {k:Nat} (h:k∈P.map En.key):k∈keysP P:=(Zb2 _).mem_iff.2 h
structure CleanIs (f:Fl) (P:List En) (num:Nat) (V:Ym) (e:Int) (f':Fl) (P':List En) (fb':Nat):Prop where
  ok:f'.Ok
  len:f'.b.length=f.b.length
  st:f'.st=f.st
  er:f'.er≤f.er+1
  pr:f'.pr≤f.pr+24 * P.length
  keys:P'.map En.key=P.map En.key
  res:(e=0∧f'.down=false∧SI f'.b P' num fb' V∧¬ NoRoom f'.b fb')∨(e=9∧f'.down=true∧FI f'.b num V∧∃ q,q<f.b.length / 256∧Jt f'.b q)
  no:f.left = -1→e=0∧f'.left = -1
theorem clean_is {f f':Fl} {P P':List En} {num fb fb':Nat} {V:Ym} {e:Int} (hf:f.Ok) (hd:f.down=false) (hs:SI f.b P num fb V) (hcap:P.length≤10 * (f.b.length / 256 - 2)) (hpr:f.pr+24 * P.length+24<4611686018427387904) (her:f.er+1<4611686018427387904) (hc:Zh0 f P fb e f' P' fb'):CleanIs f P num V e f' P' fb':=by
 obtain ⟨v,hv1,hv2,hv3,hc⟩:=hc
 have hlo:=hf.lo
 have hkl:=keysP_len P
 have hbk:∀ x∈P,Gd f.b x:=fun x hx=>(hs.so _ x (JO hs.nd hx)).1
 have h10:X5 P v<10:=by
  have h1:=Zng (n:=f.b.length / 256) fun x hx=>(hbk x hx).bk
  have h2:=Zqn (g:=X5 P) (c:=X5 P v) (fb:=fb) (f.b.length / 256) hv3
  rw [if_pos hs.hfb,h1] at h2
  apply Decidable.byContradiction
  intro hn
  have h3:10 * (f.b.length / 256 - 1)≤X5 P v * (f.b.length / 256 - 1):=Nat.mul_le_mul_right _ (by omega)
  rw [Nat.mul_sub,Nat.mul_one] at h3
  rw [Nat.mul_sub_one] at h3
  omega
 rcases hc with ⟨h,_⟩ | ⟨_,hc⟩
 ·omega
 have hM0:MI f P num fb v V (keysP P) 0 ((f,P),0,0):=⟨hf,rfl,rfl,rfl,Nat.le_add_right _ _,hs.fi,rfl,hs.so,fun y hy e=>absurd e (em_no hs.fi.lt hs.em hy),.inl ⟨rfl,hd,by simp,fun i _ hi=>hs.em i hi,fun k hk=>by simp at hk⟩,fun h=>⟨rfl,h⟩⟩
 have hM:=hM0.all (by omega) hs.hfb hv2 h10 (keysP P).length (Nat.le_refl _)
 obtain ⟨s,hsE⟩:∃ s,Zad fb v (keysP P) f P (keysP P).length=s:=⟨_,rfl⟩
 rw [hsE] at hM hc
 have hlen:=hM.len
 have hMpr:=hM.pr
 rcases hc with ⟨hne,rfl,rfl,rfl,rfl⟩ | ⟨h0,rfl,rfl,rfl,hfb'⟩
 ·rcases hM.res with ⟨r1,_⟩ | ⟨r1,r2⟩
  ·exact absurd r1 hne
  ·exact ⟨hM.ok,hM.len,hM.st,by rw [hM.er]; exact Nat.le_succ _,by omega,hM.keys,.inr ⟨r1,r2,hM.fi,fb',hs.hfb,fun y hy hyb=>by
    obtain ⟨z,z1,z2,z3,z4⟩:=hM.sp y hy hyb
    exact ⟨z,z1,by omega,z3,by omega⟩⟩,fun h=>absurd (hM.no h).1 hne⟩
 ·obtain ⟨r1,r2,r3,r4,r5⟩:=(hM.res.resolve_right fun h=>by rw [h0] at h; exact absurd h.1 (by decide))
  have hMer:=hM.er
  have hE:=erased hM.ok r2 (k:=v) (by omega) (by omega)
  have hnov:∀ k x,YY k s.1.2=some x→x.bk≠v:=fun k x hx=>by
   refine r5 k ?_ x hx
   rw [List.take_length]
   refine Zpd ?_
   rw [← hM.keys]
   apply Decidable.byContradiction
   intro hn
   obtain ⟨a1,a2,a3⟩:=hM.so k x hx
   have hmem:∀ {Q:List En},YY k Q=some x→k∈Q.map En.key:=fun {Q}=>by
    induction Q with
    | nil=>intro h; cases h
    | cons y l ih =>
     intro h
     unfold YY at h
     split at h
     ·rename_i e; rw [e]; simp
     ·exact List.mem_cons_of_mem _ (ih h)
   exact hn (hmem hx)
  have hgone:∀ k,YY k s.1.2=none→V k=none:=fun k hk=>by
   have h1:=Zjz hk
   rw [hM.keys] at h1
   cases e:YY k P with
   | none=>exact hs.no k e
   | some x =>
    have:=(hs.so k x e).2.1
    refine absurd ?_ h1
    have hmem:∀ {Q:List En},YY k Q=some x→k∈Q.map En.key:=fun {Q}=>by
     induction Q with
     | nil=>intro h; cases h
     | cons y l ih =>
      intro h
      unfold YY at h
      split at h
      ·rename_i e; rw [e]; simp
      ·exact List.mem_cons_of_mem _ (ih h)
    exact hmem e
  have hspare:Jt s.1.1.b v:=fun y hy hyb=>by
   cases e:YY y.key s.1.2 with
   | none=>exact absurd rfl (hM.fi.topN _ (hgone _ e) y hy)
   | some x =>
    obtain ⟨a1,a2,a3⟩:=hM.so _ x e
    exact ⟨x,a1,hnov _ x e,a2,(hM.fi.topS _ _ _ a3).2 y hy rfl⟩
  obtain ⟨i1,i2,i3,i4⟩:=hM.fi.erase hspare (by omega) hE.len hE.ok.bs hE.out hE.cov
  refine ⟨hE.ok,by rw [← hM.len]; exact hE.len,by rw [← hM.st]; exact hE.st,by rw [← hM.er]; exact hE.er,by rw [hE.pr]; omega,hM.keys,?_,fun h=>hE.no (hM.no h).2⟩
  rcases hE.res with ⟨q0,q1,q2⟩ | ⟨q0,q1⟩
  ·rw [if_neg (by rw [q0]; simp)] at hfb'
   subst hfb'
   refine .inl ⟨q0,q1,⟨i1,by rw [hM.keys]; exact hs.nd,fun k x hx=>?_,hgone,by rw [hE.len]; omega,q2⟩,fun hno=>?_⟩
   ·obtain ⟨a1,a2,a3⟩:=hM.so k x hx
    exact ⟨i4 x a1 (hnov k x hx),a2,a3⟩
   ·refine hno fb s.2.1 (by rw [hE.len,hM.len]; exact hs.hfb) (by omega) (by omega) ?_
    rw [Zln (b:=s.1.1.b) hE.len fun i hi=>hE.out _ (by omega)]
    exact Zgs hM.fi.lt (Nat.le_refl _) r4 (by omega)
  ·exact .inr ⟨q0,q1,i1,v,by omega,i2⟩
structure WroteIs (f:Fl) (P:List En) (num fb id:Nat) (V:Ym) (key:Nat) (vs:List Nat) (e:Int) (f':Fl) (P':List En) (num' id':Nat):Prop where
  ok:f'.Ok
  len:f'.b.length=f.b.length
  st:f'.st=f.st
  er:f'.er=f.er
  pr:f'.pr≤f.pr+24
  res:(e=0∧f'.down=false∧num'=num+1∧id'=id∧SI f'.b P' (num+1) fb (Zc4 V key (num+1) vs)∧(YY key P=none→P'.length=P.length+1)∧(∀ x,YY key P=some x→P'.length=P.length)) ∨
    (e=9∧f'.down=true∧id'=0∧P'=P∧num'=num∧∃ V',(V'=V∨V'=Zc4 V key (num+1) vs)∧FI f'.b (num+1) V'∧Jt f'.b fb)
  no:f.left = -1→e=0∧f'.left = -1
theorem Znh {f f':Fl} {P P':List En} {num fb id num' id' key:Nat} {V:Ym} {vs:List Nat} {e:Int} (hf:f.Ok) (hd:f.down=false) (hs:SI f.b P num fb V) (hpr:f.pr+24<4611686018427387904) (hv:EnV key (num+1) vs) (hw:Zh1 f P num fb id key vs e f' P' num' id'):WroteIs f P num fb id V key vs e f' P' num' id':=by
 obtain ⟨bk,sl,hroom,rfl,rfl,hw⟩:=hw
 have hbk:=hroom.hbk
 have hsl:=hroom.hsl
 have hne:bk≠fb:=fun e=>hroom.ne (by rw [e])
 have hlm:=hs.fi.lm
 have hplt:=WE (num:=num+1) (show key<65536 by have:=hv.key; omega) hv.val hv.len
 have h1:=wrote hf hd (o:=bk * 256+sl * 24) (XO (key:=key) (num:=num+1) hv.len) hplt hpr (by omega) hroom.em
 have hwr:=wr_of hbk hsl hroom.em hv h1
 obtain ⟨g1,g2,g3⟩:=hwr.gd hs.fi
 obtain ⟨r,hr⟩:∃ r,Ya f (bk * 256+sl * 24) (packP key (num+1) vs)=r:=⟨_,rfl⟩
 rw [hr] at h1 hwr g1 g2 g3 hw ⊢
 have hem:∀ i,i<256→gB r.1.b (fb * 256+i)=255:=fun i hi=>by
  rw [h1.out _ (by omega)]; exact hs.em i hi
 refine ⟨h1.ok,h1.len,h1.st,h1.er,h1.pr,?_,h1.no⟩
 rcases h1.res with ⟨q0,q1,q2⟩ | ⟨q0,q1⟩
 ·have hw:=hw.resolve_left fun h=>h.1 q0
  obtain ⟨_,rfl,rfl,rfl⟩:=hw
  refine .inl ⟨q0,q1,rfl,rfl,⟨hwr.new hs.fi q2,Zh6 hs.nd,fun k x hx=>?_,fun k hk=>?_,by rw [h1.len]; exact hs.hfb,hem⟩,fun hn=>?_,fun x hx=>?_⟩
  ·rw [VA] at hx
   simp only [Zc4]
   simp only at hx
   split at hx
   ·rename_i e
    cases hx
    exact ⟨g3 q2,e.symm,by rw [if_pos e]⟩
   ·rename_i e
    obtain ⟨a1,a2,a3⟩:=hs.so k x hx
    exact ⟨(g1 x a1).1,a2,by rw [if_neg e]; exact a3⟩
  ·rw [VA] at hk
   simp only at hk
   simp only [Zc4]
   split at hk
   ·cases hk
   ·rename_i e
    rw [if_neg e]; exact hs.no k hk
  ·have:=congrArg List.length (JY (x:=⟨key,num+1,vs,bk,sl⟩) hn)
   simpa using this
  ·have:=congrArg List.length (Zae (x:=⟨key,num+1,vs,bk,sl⟩) (P:=P) (by simp only; rw [hx]; rfl))
   simpa using this
 ·have hw:=hw.resolve_right fun h=>by rw [q0] at h; exact absurd h.1 (by decide)
  obtain ⟨_,rfl,rfl,rfl⟩:=hw
  refine .inr ⟨q0,q1,by rw [q0]; rfl,rfl,rfl,?_⟩
  by_cases e:slotB r.1.b bk sl=packP key (num'+1) vs
  ·exact ⟨_,.inr rfl,hwr.new hs.fi e,Zh8 h1.ok.bs hem⟩
  ·exact ⟨V,.inl rfl,(hwr.torn hs.fi e).mono (Nat.le_succ _),Zh8 h1.ok.bs hem⟩
structure PutIs (f:Fl) (P:List En) (num fb id:Nat) (V:Ym) (key:Nat) (vs:List Nat) (e:Int) (f':Fl) (P':List En) (num' fb' id':Nat):Prop where
  ok:f'.Ok
  len:f'.b.length=f.b.length
  st:f'.st=f.st
  er:f'.er≤f.er+1
  pr:f'.pr≤f.pr+24 * P.length+24
  res:(e=0∧f'.down=false∧num'=num+1∧id'=id∧SI f'.b P' (num+1) fb' (Zc4 V key (num+1) vs)∧(YY key P=none→P'.length=P.length+1)∧(∀ x,YY key P=some x→P'.length=P.length)) ∨
    (e=9∧f'.down=true∧∃ V',(V'=V∨V'=Zc4 V key (num+1) vs)∧FI f'.b (num+1) V'∧∃ q,q<f.b.length / 256∧Jt f'.b q)
  no:f.left = -1→e=0∧f'.left = -1
theorem Zrz {P Q:List En} (h:P.map En.key=Q.map En.key) (k:Nat):(YY k P).isSome=(YY k Q).isSome:=by
 induction P generalizing Q with
 | nil=>cases Q with
  | nil=>rfl
  | cons y l=>simp at h
 | cons x P ih=>cases Q with
  | nil=>simp at h
  | cons y l =>
   simp only [List.map_cons,List.cons.injEq] at h
   unfold YY
   rw [h.1]
   split
   ·rfl
   ·exact ih h.2
theorem put_is {f f':Fl} {P P':List En} {num fb id num' fb' id' key:Nat} {V:Ym} {vs:List Nat} {e:Int} (hf:f.Ok) (hd:f.down=false) (hs:SI f.b P num fb V) (hcap:P.length≤10 * (f.b.length / 256 - 2)) (hpr:f.pr+24 * P.length+48<4611686018427387904) (her:f.er+1<4611686018427387904) (hv:EnV key (num+1) vs) (hp:PutGo f P num fb id key vs e f' P' num' fb' id'):PutIs f P num fb id V key vs e f' P' num' fb' id':=by
 rcases hp with ⟨hw,rfl⟩ | ⟨_,e1,f1,P1,fb1,hc,hp⟩
 ·have h:=Znh hf hd hs (by omega) hv hw
  have:=h.pr
  refine ⟨h.ok,h.len,h.st,by rw [h.er]; exact Nat.le_succ _,by omega,?_,h.no⟩
  rcases h.res with r | ⟨r1,r2,_,_,_,V',r3,r4,r5⟩
  ·exact .inl r
  ·exact .inr ⟨r1,r2,V',r3,r4,fb',hs.hfb,r5⟩
 ·have h:=clean_is hf hd hs hcap (by omega) her hc
  have hpr1:=h.pr
  have her1:=h.er
  have hlen1:P1.length=P.length:=by simpa using congrArg List.length h.keys
  rcases hp with ⟨hne,rfl,rfl,rfl,rfl,rfl,rfl⟩ | ⟨h0,hno,_⟩ | ⟨h0,hw,rfl⟩
  ·refine ⟨h.ok,h.len,h.st,h.er,by omega,?_,h.no⟩
   rcases h.res with ⟨r,_⟩ | ⟨r1,r2,r3,r4⟩
   ·exact absurd r hne
   ·exact .inr ⟨r1,r2,V,.inl rfl,r3.mono (Nat.le_succ _),r4⟩
  ·rcases h.res with ⟨_,_,_,r⟩ | ⟨r,_⟩
   ·exact absurd hno r
   ·rw [h0] at r; exact absurd r (by decide)
  ·obtain ⟨_,d1,s1,_⟩:=h.res.resolve_right fun r=>by rw [h0] at r; exact absurd r.1 (by decide)
   have h2:=Znh h.ok d1 s1 (by omega) hv hw
   have hpr2:=h2.pr
   refine ⟨h2.ok,by rw [h2.len,h.len],by rw [h2.st,h.st],by rw [h2.er]; exact h.er,by omega,?_,fun hl=>h2.no (h.no hl).2⟩
   have hgk:=Zrz h.keys key
   rcases h2.res with ⟨r1,r2,r3,r4,r5,r6,r7⟩ | ⟨r1,r2,_,_,_,V',r3,r4,r5⟩
   ·refine .inl ⟨r1,r2,r3,r4,r5,fun hn=>?_,fun x hx=>?_⟩
    ·rw [← hlen1]
     refine r6 ?_
     rw [hn] at hgk
     exact Option.isNone_iff_eq_none.1 (by rw [← Option.not_isSome,hgk]; rfl)
    ·rw [← hlen1]
     rw [hx] at hgk
     obtain ⟨y,hy⟩:=Option.isSome_iff_exists.1 hgk
     exact r7 y hy
   ·exact .inr ⟨r1,r2,V',r3,r4,fb',by rw [← h.len]; exact s1.hfb,r5⟩
theorem FI.num' {b:List Nat} {N M:Nat} {V:Ym} (h:FI b N V) (hM:∀ y,Gd b y→y.num≤M):FI b M V:=⟨h.lt,h.lm,h.nb,h.slo,hM,h.uq,h.topN,h.topS⟩
theorem FI.numB {b:List Nat} {N:Nat} {V:Ym} (h:FI b N V):NumB b N:=fun bk sl h1 h2 h3=>h.num (enB b bk sl) ⟨h1,h2,h3,rfl⟩
structure OpenIs (f:Fl) (N:Nat) (V:Ym) (f2:Fl) (P:List En) (num bk:Nat):Prop where
  si:SI f2.b P num bk V
  num:num≤N
  down:f2.down=false
  st:f2.st=f.st+1
  er:f2.er≤f.er+1
  pr:f2.pr=f.pr
  no:f.left = -1→f2.left = -1
theorem Zh9 {b:List Nat} {N:Nat} {V:Ym} {num num0 bk:Nat} {P:List En} (hfi:FI b N V) (hsc:(num,P)=VQ b (-1) num0) (hn0:num0≤N) (hbk:bk<b.length / 256) (hem:∀ i,i<256→gB b (bk * 256+i)=255):SI b P num bk V∧num≤N:=by
 have hs:=Zlo b (-1) num0
 have hle:=Zhy hfi.numB (but:=-1) hn0
 rw [← hsc] at hs hle
 have hnu:=hs.nu
 simp only at hnu hle
 refine ⟨⟨hfi.num' fun y hy=>hnu y hy hy.bk (by omega),hs.nd,fun k x hx=>?_,fun k hk=>?_,hbk,hem⟩,hle⟩
 ·obtain ⟨a1,a2,a3,a4,a5⟩:=hs.so k x hx
  refine ⟨a1,a4,?_⟩
  cases e:V k with
  | none=>exact absurd a4 (hfi.topN k e x a1)
  | some p =>
   obtain ⟨m,v⟩:=p
   obtain ⟨⟨y,y1,y2,y3,y4⟩,y5⟩:=hfi.topS k m v e
   have h1:=y5 x a1 a4
   have h2:=a5 y y1 y1.bk (by omega) y2
   have h3:=hfi.uq x y a1 y1 (by omega) (by omega)
   rw [h3,y4,show m=x.num by omega]
 ·cases e:V k with
  | none=>rfl
  | some p =>
   obtain ⟨m,v⟩:=p
   obtain ⟨⟨y,y1,y2,y3,y4⟩,y5⟩:=hfi.topS k m v e
   exact absurd y2 (hs.no k hk y y1 y1.bk (by omega))
theorem open_is {f f2:Fl} {N num num0 bk:Nat} {V:Ym} {P:List En} (hf:f.Ok) (hst:f.st+1<4611686018427387904) (her:f.er+1<4611686018427387904) (hd:f.down=false) (hfi:FI f.b N V) (hop:Zd8 { f with st:=f.st+1 } f2 bk) (hn0:∀ N,NumB f.b N→num0≤N) (hsc:(num,P)=VQ f2.b (-1) num0):OpenIs f N V f2 P num bk:=by
 obtain ⟨hbk,hop⟩:=hop
 have hn:=hn0 N hfi.numB
 rcases hop with ⟨rfl,hem⟩ | ⟨hne,hsp,hE⟩
 ·obtain ⟨h1,h2⟩:=Zh9 hfi hsc hn hbk ((em_iff hfi.lt hbk).1 hem)
  exact ⟨h1,h2,hd,rfl,Nat.le_succ _,rfl,fun h=>h⟩
 ·have hf1:({ f with st:=f.st+1 }:Fl).Ok:=⟨hf.bs,hf.ps,hf.len,hf.lo,hf.hi,hf.pl,hf.pr,hf.er,hst,hf.l0,hf.l1⟩
  have hEr:=erased hf1 hd hbk her
  rw [hE] at hEr
  simp only at hEr
  obtain ⟨i1,i2,i3,i4⟩:=hfi.erase (Zh7 hbk hsp) hbk hEr.len hEr.ok.bs hEr.out hEr.cov
  have hr:=hEr.res.resolve_right fun h=>absurd h.1 (by decide)
  have hlen:=hEr.len
  simp only at hlen hbk
  obtain ⟨h1,h2⟩:=Zh9 i1 hsc hn (by rw [hlen]; exact hbk) hr.2.2
  exact ⟨h1,h2,hr.2.1,hEr.st,hEr.er,hEr.pr,fun h=>(hEr.no h).2⟩
theorem Zr0 {f:Fl} {N bk:Nat} {V:Ym} (hf:f.Ok) (hst:f.st+1<4611686018427387904) (her:f.er+1<4611686018427387904) (hd:f.down=false) (hfi:FI f.b N V) (hbk:bk<f.b.length / 256) (hsp:Vz f.b bk=true):Erased { f with st:=f.st+1 } bk (Yy { f with st:=f.st+1 } (bk:Int)).1 (Yy { f with st:=f.st+1 } (bk:Int)).2∧FI (Yy { f with st:=f.st+1 } (bk:Int)).1.b N V∧Jt (Yy { f with st:=f.st+1 } (bk:Int)).1.b bk:=by
 have hf1:({ f with st:=f.st+1 }:Fl).Ok:=⟨hf.bs,hf.ps,hf.len,hf.lo,hf.hi,hf.pl,hf.pr,hf.er,hst,hf.l0,hf.l1⟩
 have hEr:=erased hf1 hd hbk her
 obtain ⟨i1,i2,_⟩:=hfi.erase (Zh7 hbk hsp) hbk hEr.len hEr.ok.bs hEr.out hEr.cov
 exact ⟨hEr,i1,i2⟩
theorem fi_new {b:List Nat} (hb:∀ z∈b,z=255) (hlm:b.length % 256=0) (hnb:b.length / 256≤64):FI b 0 (fun _=>none):=by
 have hlt:∀ z∈b,z<256:=fun z hz=>by rw [hb z hz]; decide
 have h255:∀ k,k<b.length→gB b k=255:=fun k hk=>hb _ (Zpb hk)
 have hno:∀ y,¬ Gd b y:=fun y hy=>by
  have h1:=hy.bk
  exact em_no hlt (fb:=y.bk) (fun i hi=>h255 _ (by omega)) hy rfl
 refine ⟨hlt,hlm,hnb,fun bk sl h1 h2=>?_,fun y hy=>absurd hy (hno y),fun y z hy=>absurd hy (hno y),fun k _ y hy=>absurd hy (hno y),fun k m v h=>by cases h⟩
 have hv:EnV 0 0 []:=⟨by decide,by decide,by decide,fun z hz=>by cases hz⟩
 refine ⟨0,0,[],hv,cov_255 ?_ (WE (by decide) hv.val hv.len) (VJ hlt _ _) ?_⟩
 ·rw [XO hv.len,VR (by omega)]
 ·exact Zgs hlt (Nat.zero_le _) (fun i _ hi=>h255 _ (by omega)) h2
end Iv
namespace Iv
structure StOk (f:Fl) (id:Nat) (m:List (ME He)) (nb:Nat) (T:List HL) (num fb:Nat) (V:Ym):Prop where
  ok:f.Ok
  dn:f.down=false
  hid:id=f.st
  ms:MSt m nb T
  si:SI f.b (plain m) num fb V
  cap:m.length≤10 * (f.b.length / 256 - 2)
theorem StOk.ready {f:Fl} {id:Nat} {m:List (ME He)} {nb:Nat} {T:List HL} {num fb:Nat} {V:Ym} (h:StOk f id m nb T num fb V):Vn f id=0:=by
 unfold Vn; rw [if_neg (by rw [h.dn]; decide),if_neg (by rw [h.hid]; simp)]
theorem StOk.mono {f:Fl} {id:Nat} {m:List (ME He)} {nb:Nat} {T T':List HL} {num fb:Nat} {V:Ym} (h:StOk f id m nb T num fb V) (hT:∀ y∈T,y∈T'):StOk f id m nb T' num fb V:=⟨h.ok,h.dn,h.hid,h.ms.mono hT,h.si,h.cap⟩
theorem Zni {k:Nat} {x:En}:∀ {Q:List En},YY k Q=some x→k∈Q.map En.key
  | [],h=>by cases h
  | y::l,h=>by
    unfold YY at h
    split at h
    · rename_i e; rw [e]; simp
    · exact List.mem_cons_of_mem _ (Zni h)
def W7 (key:Int) (V:Ym):List Nat × Int:=if key<0∨999<key then ([],2) else match V key.toNat with | none=>([],0) | some p=>(p.2,0)
end Iv
theorem GetM_ok (f:Fl) (bs bf:Nat) (rb:Option Nat) (cb:Nat) (rp:Option Nat) (cp:Nat) (id bm num fb:Nat) (m:List (ME He)) (nb:Nat) (T:List HL) (V:Ym) (hst:StOk f id m nb T num fb V) (S:List Nat) (w0:World) (hown:Own w0 S w0 (.blk bs [.bool true,.pointer (some ⟨bf,0,none⟩),natV id,.map (some bm),.int .u32 ((num:Nat):Int),.int .i64 ((fb:Nat):Int)] 138 :: .obj bm (X0 HV m nb)::(FlH bf rb cb rp cp f++T))) (key:Int):Sp Tryz.prog 180 [.pointer (some ⟨bs,0,none⟩),.int .i64 key] w0 S (fun v L=>∃ (r:Option Nat) (c:Nat),v=.tuple #[.slice (rowA r) (W7 key V).1.length c,.int .i64 (W7 key V).2]∧L=.row 5 1 r (W7 key V).1.length c ((W7 key V).1.map u8V)::(.blk bs [.bool true,.pointer (some ⟨bf,0,none⟩),natV id,.map (some bm),.int .u32 ((num:Nat):Int),.int .i64 ((fb:Nat):Int)] 138 :: .obj bm (X0 HV m nb)::(FlH bf rb cb rp cp f++T))):=by
 refine ZC Tryz.func180 rfl Tryz.ntmps180 rfl hown ?_
 simp only [ZV]
 refine Zb<|Za<|gas rfl rfl<|gas rfl rfl<|gA<|Zb<|Zb<|Za<|gm rfl rfl<|gr rfl (X6 eg_33 Tryz.underlying33 rfl rfl)<|gm rfl rfl<|Zg rfl rfl<|Zm rfl (Zo rfl)<|Zg rfl rfl<|Zm rfl (ZN rfl)<|Zg rfl rfl<|Zm rfl (Zd rfl (Zhg _))<|Zg rfl rfl (Zm rfl (Zi Tryz.underlying4 rfl rfl (by exact Zp 0 rfl rfl)) ?_)
 refine Zg rfl rfl<|Zm rfl (rd_not rfl)<|gr rfl (Zn rfl rfl)<|gA<|Zl rfl<|Zv<|Ze<|Zb<|Zb<|Za<|gm rfl rfl<|gr rfl (ZX rfl rfl) (Zw (fun h17=>?_) (fun h17=>?_))
 ·refine gm rfl rfl<|Zj rfl rfl rfl<|Zj rfl rfl rfl<|gr rfl (Zq rfl rfl)<|gA<|Zk rfl<|Zb<|YH 5 1<|Za<|gas rfl rfl<|gas rfl rfl<|gA<|Zu<|Zh<|XE (.inl rfl) Tryz.results180 rfl rfl (YL 0 rfl) ?_
  rw [show W7 key V=([],2) by unfold W7; rw [if_pos (by omega)]]
  exact ⟨none,0,rfl,rfl⟩
 refine gm rfl rfl<|Zg rfl rfl<|Zm rfl (Zo rfl)<|Zg rfl rfl (Zm rfl (Yk rfl rfl) (Zw (fun h20=>?_) (fun h20=>?_)))
 ·refine gr rfl (Zn rfl rfl)<|gA<|Zk rfl<|Zb<|YH 5 1<|Za<|gas rfl rfl<|gas rfl rfl<|gA<|Zu<|Zh<|XE (.inl rfl) Tryz.results180 rfl rfl (YL 0 rfl) ?_
  rw [show W7 key V=([],2) by unfold W7; rw [if_pos (by omega)]]
  exact ⟨none,0,rfl,rfl⟩
 refine gr rfl (Zn rfl rfl)<|gA<|Zl rfl<|Zv<|Ze<|Zb<|Zb<|Za<|gm rfl rfl<|Zt (ZJ rfl (vf:=[]) (vc:=[]) rfl rfl Tryz.call184 (fun w1 ho=>Zgm f hst.ok bs bf rb cb rp cp id bm num fb w1 (ho.blkCells 0 rfl) (ho.blkCells 2 rfl)) ?_)
 rintro _ _ ⟨rfl,rfl⟩
 rw [hst.ready]
 refine gas rfl rfl<|gA<|Zb<|Za<|gm rfl rfl<|gr rfl (Z4 rfl rfl) (Zw (fun h25=>?_) (fun h25=>?_))
 ·exact absurd rfl h25
 refine gA<|Zl rfl<|Zv<|Ze<|Zb ?_
 obtain ⟨k,rfl⟩:∃ k:Nat,key=k:=⟨key.toNat,by omega⟩
 rcases hg:Wz ((k:Nat):Int) m with _ | o
 ·refine Za<|gm rfl rfl<|gnc rfl rfl<|gr rfl (Zd rfl (YG _))<|gr rfl (Zi Tryz.underlying135 rfl rfl (by exact Zp 0 rfl rfl)) ?_
  refine gr rfl (Zo rfl) ?_
  have hV:V k=none:=hst.si.no k (hst.ms.none hg)
  refine gr rfl (Zcv 1 HV rfl Tryz.underlying135 Tryz.underlying3 Y3 rfl rfl) ?_
  rw [hg,Option.map_none,Option.getD_none]
  refine gr rfl (Zde rfl (Zmt _ _ _ _ _ _ _))<|gr rfl (Zde rfl (Zms _ _ _ _ _))<|Zt (ZJ rfl (vf:=[]) (vc:=[]) rfl rfl Tryz.call39 (fun w2 ho=>Wg [] none 0 w2 (Zg3 _ _ 1) (by decide)) ?_)
  rintro _ _ ⟨rc,cc,rfl,rfl⟩
  refine gas rfl rfl<|gas rfl rfl<|gA<|Zu<|XE (.inl rfl) Tryz.results180 rfl rfl (YL 0 rfl) ?_
  rw [show W7 ((k:Nat):Int) V=([],0) by unfold W7; rw [if_neg (by omega),Int.toNat_natCast,hV]]
  exact ⟨rc,cc,rfl,rfl⟩
 refine Za<|gm rfl rfl<|gnc rfl rfl<|gr rfl (Zd rfl (YG _))<|gr rfl (Zi Tryz.underlying135 rfl rfl (by exact Zp 0 rfl rfl)) ?_
 refine gr rfl (Zo rfl) ?_
 obtain ⟨hoe,hor,hok,hpg⟩:=hst.ms.get hg
 have hV:V k=some (o.en.num,o.en.val):=(hst.si.so k o.en hpg).2.2
 have ho16:=hoe.len
 refine gr rfl (Zcv 1 HV rfl Tryz.underlying135 Tryz.underlying3 Y3 rfl rfl) ?_
 rw [hg,Option.map_some,Option.getD_some]
 refine gr rfl (Zde rfl (Zmt _ _ _ _ _ _ _))<|gr rfl (Zde rfl (Zms _ _ _ _ _))<|Zt (ZJ rfl (vf:=[]) (vc:=[]) rfl rfl Tryz.call39 (fun w2 ho=>Wg o.en.val (rowA o.r) o.c w2 (ho.memSl (show o.row∈_ from by simp [hor])) (by omega)) ?_)
 rintro _ _ ⟨rc,cc,rfl,rfl⟩
 refine gas rfl rfl<|gas rfl rfl<|gA<|Zu<|XE (.inl rfl) Tryz.results180 rfl rfl (YL 0 rfl) ?_
 rw [show W7 ((k:Nat):Int) V=(o.en.val,0) by unfold W7; rw [if_neg (by omega),Int.toNat_natCast,hV]]
 exact ⟨rc,cc,rfl,rfl⟩
theorem Keys_ok (f:Fl) (bs bf:Nat) (rb:Option Nat) (cb:Nat) (rp:Option Nat) (cp:Nat) (id bm num fb:Nat) (m:List (ME He)) (nb:Nat) (T:List HL) (V:Ym) (hst:StOk f id m nb T num fb V) (S:List Nat) (w0:World) (hown:Own w0 S w0 (.blk bs [.bool true,.pointer (some ⟨bf,0,none⟩),natV id,.map (some bm),.int .u32 ((num:Nat):Int),.int .i64 ((fb:Nat):Int)] 138 :: .obj bm (X0 HV m nb)::FlH bf rb cb rp cp f)):Sp Tryz.prog 181 [.pointer (some ⟨bs,0,none⟩)] w0 S (fun v L=>∃ (r:Option Nat) (c:Nat),v=.tuple #[.slice (rowA r) (keysP (plain m)).length c,.int .i64 0]∧L=(.blk bs [.bool true,.pointer (some ⟨bf,0,none⟩),natV id,.map (some bm),.int .u32 ((num:Nat):Int),.int .i64 ((fb:Nat):Int)] 138 :: .obj bm (X0 HV m nb)::FlH bf rb cb rp cp f)++[.row 3 1 r (keysP (plain m)).length c ((keysP (plain m)).map natV)]):=by
 have hbl:=hst.ok.hi
 have hcap:=hst.cap
 refine ZC Tryz.func181 rfl Tryz.ntmps181 rfl hown ?_
 simp only [ZV]
 refine Zb<|Za<|gas rfl rfl<|gas rfl rfl<|gA<|Zb<|Zb<|Za<|gm rfl rfl<|Zt (ZJ rfl (vf:=[]) (vc:=[]) rfl rfl Tryz.call184 (fun w1 ho=>Zgm f hst.ok bs bf rb cb rp cp id bm num fb w1 (ho.blkCells 0 rfl) (ho.blkCells 2 rfl)) ?_)
 rintro _ _ ⟨rfl,rfl⟩
 rw [hst.ready]
 refine gas rfl rfl<|gA<|Zb<|Za<|gm rfl rfl<|gr rfl (Z4 rfl rfl) (Zw (fun h8=>?_) (fun h8=>?_))
 ·exact absurd rfl h8
 refine gA<|Zl rfl<|Zv<|Ze<|Zb<|Za<|gm rfl rfl<|Zt (Yi [0,1,2,3,4] [] rfl (vf:=[]) (vc:=[]) rfl rfl Tryz.call185 (by decide) rfl (fun w how hc=>Zqh f hst.ok bs bf rb cb rp cp id bm num fb m nb T hst.ms _ w hc (by omega)) ?_)
 rintro _ _ ⟨rk,ck,rfl,rfl⟩
 refine gas rfl rfl<|gas rfl rfl<|gA<|Zu<|Y5 (.inl rfl) Tryz.results181 rfl rfl [0,1,2,3,4,5] (by decide) ?_
 exact ⟨rk,ck,rfl,rfl⟩
namespace Iv
def CapV (V:Ym) (c:Nat):Prop:=∀ b P n fb,SI b P n fb V→P.length≤c
structure OpenG (f:Fl) (N:Nat) (V:Ym) (f2:Fl) (m:List (ME He)) (nb:Nat) (T:List HL) (num bk:Nat):Prop where
  st:StOk f2 (f.st+1) m nb T num bk V
  num:num≤N
  len:f2.b.length=f.b.length
  hst:f2.st=f.st+1
  er:f2.er≤f.er+1
  pr:f2.pr=f.pr
  no:f.left = -1→f2.left = -1
structure OpenT (f:Fl) (N:Nat) (V:Ym) (f2:Fl):Prop where
  ok:f2.Ok
  dn:f2.down=true
  fi:FI f2.b N V
  sp:∃ q,q<f.b.length / 256∧Jt f2.b q
  len:f2.b.length=f.b.length
  hst:f2.st=f.st+1
  er:f2.er≤f.er+1
  pr:f2.pr=f.pr
  no:f.left≠-1
theorem OpenG_ok (f:Fl) (hf:f.Ok) (bf:Nat) (rb:Option Nat) (cb:Nat) (rp:Option Nat) (cp:Nat) (N:Nat) (V:Ym) (hfi:FI f.b N V) (hsp:∃ q,q<f.b.length / 256∧Jt f.b q) (hcap:CapV V (10 * (f.b.length / 256 - 2))) (S:List Nat) (w0:World) (hown:Own w0 S w0 (FlH bf rb cb rp cp f)) (hst:f.st+1<4611686018427387904) (her:f.er+2<4611686018427387904) (hdn:f.down=false) :
    Sp Tryz.prog 28 [.pointer (some ⟨bf,0,none⟩)] w0 S (fun v L=>(∃ (bs bm:Nat) (m:List (ME He)) (nb:Nat) (T:List HL) (num:Nat) (f2:Fl) (bk:Nat),v=.tuple #[.pointer (some ⟨bs,0,none⟩),.int .i64 0]∧OpenG f N V f2 m nb T num bk∧L=(.blk bs [.bool true,.pointer (some ⟨bf,0,none⟩),natV (f.st+1),.map (some bm),.int .u32 ((num:Nat):Int),.int .i64 ((bk:Nat):Int)] 138 :: .obj bm (X0 HV m nb)::(FlH bf rb cb rp cp f2++T)))∨(∃ f2,v=.tuple #[.pointer none,.int .i64 9]∧OpenT f N V f2∧L=FlH bf rb cb rp cp f2)):=by
  refine (Open_ok f hf bf rb cb rp cp S w0 hown hst her hdn).mono ?_
  rintro v L (⟨bs,bm,m,nb,T,num,num0,f2,bk,rfl,hop,hf2,hl2,hn0,hsc,hnum,hms,rfl⟩ | ⟨bk,hbk,_,hsb,hne,rfl,rfl⟩ | ⟨_,hno,_⟩)
  · have h:=open_is hf hst (by omega) hdn hfi hop hn0 hsc
    refine .inl ⟨bs,bm,m,nb,T,num,f2,bk,rfl,⟨⟨hf2,h.down,h.st.symm,hms,h.si,?_⟩,h.num,hl2,h.st,h.er,h.pr,h.no⟩,rfl⟩
    have:=hcap _ _ _ _ h.si
    rw [hl2]
    simpa [plain] using this
  · obtain ⟨hE,h1,h2⟩:=Zr0 hf hst (by omega) hdn hfi hbk hsb
    have hr:=hE.res.resolve_left fun h=>hne h.1
    refine .inr ⟨_,by rw [hr.1],⟨hE.ok,hr.2,h1,⟨bk,hbk,h2⟩,hE.len,hE.st,hE.er,hE.pr,fun h=>hne (hE.no h).1⟩,rfl⟩
  · obtain ⟨q,hq,h⟩:=hsp
    have:=hno q hq
    rw [Zry hq h] at this; cases this
end Iv
namespace Iv
def Zj1 (V:Ym) (key:Nat) (c len:Nat):Prop:=V key=none∧c≤len
structure PutF (f:Fl) (k:Nat) (f2:Fl):Prop where
  ok:f2.Ok
  len:f2.b.length=f.b.length
  st:f2.st=f.st
  er:f2.er≤f.er+1
  pr:f2.pr≤f.pr+24 * k+24
  no:f.left = -1→f2.left = -1
structure PutT (f:Fl) (num:Nat) (V:Ym) (key:Nat) (vs:List Nat) (f2:Fl):Prop where
  dn:f2.down=true
  no:f.left≠-1
  fi:∃ V',(V'=V∨V'=Zc4 V key (num+1) vs)∧FI f2.b (num+1) V'
  sp:∃ q,q<f.b.length / 256∧Jt f2.b q
theorem StOk.pgetV {f:Fl} {id:Nat} {m:List (ME He)} {nb:Nat} {T:List HL} {num fb:Nat} {V:Ym} (h:StOk f id m nb T num fb V) (k:Nat):YY k (plain m)=none↔V k=none:=by
 constructor
 ·exact h.si.no k
 ·intro hv
  cases e:YY k (plain m) with
  | none=>rfl
  | some x=>have:=(h.si.so k x e).2.2; rw [hv] at this; cases this
theorem PutG_ok (f:Fl) (bs bf:Nat) (rb:Option Nat) (cb:Nat) (rp:Option Nat) (cp:Nat) (id bm num fb:Nat) (m:List (ME He)) (nb:Nat) (T:List HL) (V:Ym) (hst:StOk f id m nb T num fb V) (S:List Nat) (w0:World) (hown:Own w0 S w0 (.blk bs [.bool true,.pointer (some ⟨bf,0,none⟩),natV id,.map (some bm),.int .u32 ((num:Nat):Int),.int .i64 ((fb:Nat):Int)] 138 :: .obj bm (X0 HV m nb)::(FlH bf rb cb rp cp f++T))) (hpr:f.pr+100000<4611686018427387904) (her:f.er+1<4611686018427387904) (hnum:num+1<4294967296) (key:Nat) (hkey:key≤999) (vs:List Nat) (hvs:∀ z∈vs,z<256) (hv16:vs.length≤16) (a:Option Addr) (ca:Nat) (hsl:OldSl w0 S a vs.length 1 (vs.map u8V)) :
    Sp Tryz.prog 182 [.pointer (some ⟨bs,0,none⟩),natV key,.slice a vs.length ca] w0 S (fun v L =>
      (Zj1 V key (10 * (f.b.length / 256 - 2)) m.length∧v=.int .i64 5∧L=(.blk bs [.bool true,.pointer (some ⟨bf,0,none⟩),natV id,.map (some bm),.int .u32 ((num:Nat):Int),.int .i64 ((fb:Nat):Int)] 138 :: .obj bm (X0 HV m nb)::(FlH bf rb cb rp cp f++T))) ∨
      (¬ Zj1 V key (10 * (f.b.length / 256 - 2)) m.length∧∃ (f2:Fl) (m2:List (ME He)) (nb2 fb2:Nat) (T2:List HL),v=.int .i64 0∧PutF f m.length f2∧StOk f2 id m2 nb2 T2 (num+1) fb2 (Zc4 V key (num+1) vs)∧(∀ y∈T,y∈T2)∧L=(.blk bs [.bool true,.pointer (some ⟨bf,0,none⟩),natV id,.map (some bm),.int .u32 (((num+1):Nat):Int),.int .i64 ((fb2:Nat):Int)] 138 :: .obj bm (X0 HV m2 nb2)::(FlH bf rb cb rp cp f2++T2))) ∨
      (¬ Zj1 V key (10 * (f.b.length / 256 - 2)) m.length∧∃ (f2:Fl) (m2:List (ME He)) (nb2 fb2 num2 id2:Nat) (T2:List HL),v=.int .i64 9∧PutF f m.length f2∧PutT f num V key vs f2∧(∀ y∈T,y∈T2)∧L=(.blk bs [.bool true,.pointer (some ⟨bf,0,none⟩),natV id2,.map (some bm),.int .u32 ((num2:Nat):Int),.int .i64 ((fb2:Nat):Int)] 138 :: .obj bm (X0 HV m2 nb2)::(FlH bf rb cb rp cp f2++T2)))):=by
  have hbl:=hst.ok.hi
  have hcap:=hst.cap
  have hpml:(plain m).length=m.length:=by simp [plain]
  have hfull:Full (plain m) (f.b.length / 256) key↔Zj1 V key (10 * (f.b.length / 256 - 2)) m.length:=by
    unfold Full Zj1; rw [hst.pgetV,hpml]
  refine (Put_ok f hst.ok bs bf rb cb rp cp id bm num fb m nb T hst.ms S w0 hown (by omega) hst.si.hfb (fun x hx=>?_) (by omega) her hnum key hkey vs hvs hv16 a ca hsl).mono ?_
  · have hmem:x.v.en∈plain m:=List.mem_map_of_mem hx
    exact (hst.si.so _ _ (JO hst.si.nd hmem)).1.bk
  · rintro v L (⟨h,_⟩ | ⟨_,h,rfl,rfl⟩ | ⟨_,h,e,f2,m2,nb2,fb2,num2,id2,T2,rfl,hgo,hms2,hT,hf2,hl2,hp2,rfl⟩)
    · exact absurd hst.ready h
    · exact .inl ⟨hfull.1 h,rfl,rfl⟩
    · have hp:=put_is hst.ok hst.dn hst.si (by rw [hpml]; exact hcap) (by rw [hpml]; omega) her ⟨hkey,hnum,hv16,hvs⟩ hgo
      have hF:PutF f m.length f2:=⟨hp.ok,hp.len,hp.st,hp.er,hp2,fun h=>(hp.no h).2⟩
      have hnf:¬ Zj1 V key (10 * (f.b.length / 256 - 2)) m.length:=fun h2=>h (hfull.2 h2)
      have hpml2:(plain m2).length=m2.length:=by simp [plain]
      rcases hp.res with ⟨r1,r2,r3,r4,r5,r6,r7⟩ | ⟨r1,r2,V',r3,r4,r5⟩
      · subst r1 r3 r4
        refine .inr (.inl ⟨hnf,f2,m2,nb2,fb2,T2,rfl,hF,⟨hp.ok,r2,by rw [hp.st]; exact hst.hid,hms2,r5,?_⟩,hT,rfl⟩)
        rw [hp.len]
        cases e:YY key (plain m) with
        | none =>
          have h6:=r6 e
          have:¬ 10 * (f.b.length / 256 - 2)≤m.length:=fun h2=>hnf ⟨(hst.pgetV key).1 e,h2⟩
          omega
        | some x=>have h7:=r7 x e; omega
      · subst r1
        exact .inr (.inr ⟨hnf,f2,m2,nb2,fb2,num2,id2,T2,rfl,hF,⟨r2,fun h=>absurd (hp.no h).1 (by decide),⟨V',r3,r4⟩,r5⟩,hT,rfl⟩)
theorem Zj2 (c:Nat):CapV (fun _=>none) c:=fun b P n fb h=>by
 cases P with
 | nil=>exact Nat.zero_le _
 | cons x l=>have:=(h.so x.key x (JO h.nd List.mem_cons_self)).2.2; cases this
end Iv
namespace Iv
section
variable {dm:List Deferred} {P:Program} {n:Nat} {e:Env} {w0:World} {S:List Nat} {l:List HL} {dst:Option Tmp} {ty:TypeId} {pos:String} {aft:Array Edge} {gd:Option (Nat × Bool)} {x y:Operand} {t ty':TypeId}
end
def NoP (w:World) (p:Option Addr):Prop:=p=none∨∃ ad cs,p=some ad∧Cells w ad (.bool false::cs)
theorem NoP.at {w0 w:World} {l:List HL} {p:Option Addr} (h:NoP w0 p) (ho:Own w0 [] w l):NoP w p:=by
 rcases h with h | ⟨ad,cs,h1,h2⟩
 ·exact .inl h
 ·exact .inr ⟨ad,cs,h1,h2.at ho⟩
end Iv
namespace Iv
end Iv
namespace Iv
structure Sloss where
  key:Nat
  va:Option Addr
  vc:Nat
  v:List Nat
  lose:Bool
  again:Bool
  after:Nat
  pa:Option Addr
  pc:Nat
  ps:List Nat
  deriving Inhabited
def Sloss.cells (x:Sloss):List Value:=[.int .u16 (x.key:Int),.slice x.va x.v.length x.vc,.bool x.lose,.bool x.again,.int .u16 (x.after:Int),.slice x.pa x.ps.length x.pc]
structure Sloss.In (x:Sloss) (w:World) (S:List Nat):Prop where
  key:x.key<65536
  after:x.after<65536
  v:∀ z∈x.v,z<256
  ps:∀ z∈x.ps,z<256
  vsl:OldSl w S x.va x.v.length 1 (x.v.map u8V)
  psl:OldSl w S x.pa x.ps.length 1 (x.ps.map u8V)
  vlen:x.v.length≤140737488355328
  plen:x.ps.length≤140737488355328
structure OpdOk (f:Fl) (N:Nat) (V:Ym) (f2:Fl) (m2:List (ME He)) (nb2:Nat) (T2:List HL) (num2 fb2 id2:Nat):Prop where
  st:StOk f2 id2 m2 nb2 T2 num2 fb2 V
  left:f2.left = -1
  len:f2.b.length=f.b.length
  er:f2.er≤f.er+2
  pr:f2.pr=f.pr
  hst:f2.st≤f.st+2
  num:num2≤N
end Iv
end Go.Proofs.YthcbcdjkfefnlaaGreatDoor
namespace Go.Proofs.YthcbcdjkfefnlaaGreatDoor
open Go.Gv
open Go.RowKit
open Go.Sn hiding En keysP keysP_len stop_ok
open Go.Ps
open Iv Sx
theorem eg_36 : Tryz.prog.eqGuardType Tryz.prog.depth 36=false:=by kernel_rfl
namespace Ip
structure SS where
  f:Fl
  bs:Nat
  bf:Nat
  rb:Option Nat
  cb:Nat
  rp:Option Nat
  cp:Nat
  id:Nat
  bm:Nat
  num:Nat
  fb:Nat
  m:List (ME He)
  nb:Nat
  T:List HL
abbrev SS.blk (q:SS):HL:=.blk q.bs [.bool true,.pointer (some ⟨q.bf,0,none⟩),natV q.id,.map (some q.bm),.int .u32 ((q.num:Nat):Int),.int .i64 ((q.fb:Nat):Int)] 138
abbrev SS.fl (q:SS):List HL:=FlH q.bf q.rb q.cb q.rp q.cp q.f
def SS.hl (q:SS):List HL:=.blk q.bs [.bool true,.pointer (some ⟨q.bf,0,none⟩),natV q.id,.map (some q.bm),.int .u32 ((q.num:Nat):Int),.int .i64 ((q.fb:Nat):Int)] 138 :: .obj q.bm (X0 HV q.m q.nb)::(FlH q.bf q.rb q.cb q.rp q.cp q.f++q.T)
structure SS.Ok (q:SS) (V:Ym) (n:Nat):Prop where
  st:StOk q.f q.id q.m q.nb q.T q.num q.fb V
  pr:q.f.pr≤100000 * n
  er:q.f.er≤n
  num:q.num≤n
structure SS.Stop (q:SS):Prop where
  ok:q.f.Ok
  no:Vn q.f q.id≠0
def SS.err (q:SS):Int:=Vn q.f q.id
theorem SS.Ok.zero {q:SS} {V:Ym} {n:Nat} (h:q.Ok V n):q.err=0:=h.st.ready
structure PsIn (s:Org) (bp bs:Nat) (w:World) (S:List Nat):Prop where
  p:Cells w ⟨bp,0,none⟩ [.bool true,.iface 33 (.pointer (some ⟨bs,0,none⟩)),.slice s.da s.ds.length s.dc,.slice none 0 0,.slice s.sa s.ss.length s.sc,.slice s.ca s.cs.length s.cc]
  o:bp ∉ S
  t:OldSl w S s.sa s.ss.length 5 (s.ss.flatMap St.cells)
  c:OldSl w S s.ca s.cs.length 6 (s.cs.flatMap Cp.cells)
  nd:s.ds.length≤6
  ns:s.ss.length≤80
  nc:s.cs.length≤24
theorem PsIn.at {s:Org} {bp bs:Nat} {w0 w:World} {S:List Nat} {l:List HL} (h:PsIn s bp bs w0 S) (ho:Own w0 S w l):PsIn s bp bs w [] :=
  ⟨h.p.atS ho h.o,by simp,h.t.at ho,h.c.at ho,h.nd,h.ns,h.nc⟩
theorem PsIn.sp {s:Org} {bp bs:Nat} {w:World} {S:List Nat} (h:PsIn s bp bs w S):Cells w ((⟨bp,0,none⟩:Addr).add 2) [.slice s.da s.ds.length s.dc,.slice none 0 0,.slice s.sa s.ss.length s.sc,.slice s.ca s.cs.length s.cc]:=fun j v hv=>by
 rw [add_add]
 exact h.p (2+j) v (by rw [show 2+j=j+1+1 by omega]; simpa using hv)
theorem PsIn.out {s:Org} {bp bs:Nat} {w0 w:World} {S:List Nat} {A T:List HL} (h:PsIn s bp bs w0 S) (ho:Own w0 S w (A++T)):PsIn s bp bs w (T.filterMap HL.block):=by
 have hT:∀ b∈T.filterMap HL.block,b∈S∨w0.heap.size≤b:=fun b hb=>by
  obtain ⟨x,hx,hxb⟩:=List.mem_filterMap.1 hb
  exact ho.place x (List.mem_append_right _ hx) b hxb
 have hp:=h.at ho
 refine ⟨hp.p,fun hb=>?_,⟨hp.t.len,hp.t.isSome,hp.t.cells,fun hm hb=>?_⟩,⟨hp.c.len,hp.c.isSome,hp.c.cells,fun hm hb=>?_⟩,h.nd,h.ns,h.nc⟩
 ·rcases hT _ hb with h1 | h1
  ·exact h.o h1
  ·have:=Zko (h.p 0 _ rfl)
   rw [block_add] at this
   exact absurd this (Nat.not_lt.2 h1)
 ·rcases hT _ hb with h1 | h1
  ·exact h.t.out hm h1
  ·exact absurd (h.t.lt hm (by decide)) (Nat.not_lt.2 h1)
 ·rcases hT _ hb with h1 | h1
  ·exact h.c.out hm h1
  ·exact absurd (h.c.lt hm (by decide)) (Nat.not_lt.2 h1)
abbrev Pis.val (x:Pis):Value:=kv3 x.lv x.dv x.nm
theorem Zpi (p:Value) (w:World):(method (Tryz.prog.types.size+Made.depth) 33 p "Keys").run Tryz.prog w=.ok (181,p) w:=by kernel_rfl
theorem m_get (p:Value) (w:World):(method (Tryz.prog.types.size+Made.depth) 33 p "Get").run Tryz.prog w=.ok (180,p) w:=by kernel_rfl
theorem Znp (p:Value) (w:World):(method (Tryz.prog.types.size+Made.depth) 33 p "Put").run Tryz.prog w=.ok (182,p) w:=by kernel_rfl
end Ip
open Ip
theorem Zif {nd:Nat} (hn:nd≤6) (x:Pis) (hx:pnE nd x=0) (w0:World):Sp Tryz.prog 54 [Pis.val x] w0 [] (RV (.int .i64 (kyP x))):=by
 obtain ⟨h1,h2,h3,h4,h5,h6⟩:=pn_ok.1 hx
 have h7:x.nm≤20:=by split at h4 <;> omega
 refine ZC Tryz.func54 rfl Tryz.ntmps54 rfl (Own.refl _) ?_
 simp only [ZV]
 refine Zb<|Za<|Zt (Z6 rfl rfl rfl (fun b1=>?_))
 refine gas rfl rfl<|gA<|Zb<|Za<|gr rfl (Zd rfl (X9 _))<|gr rfl (Zi Tryz.underlying3 rfl rfl (by exact Zp 0 rfl rfl)) ?_
 refine gr rfl (by exact WX rfl rfl (by omega) (by omega)) ?_
 refine gr rfl (by exact Zgy rfl rfl (by omega) (by omega)) ?_
 refine gr rfl (Zd rfl (Vh _))<|gr rfl (Zi Tryz.underlying3 rfl rfl (by exact Zp 0 rfl rfl)) ?_
 refine gr rfl (by exact XR rfl rfl (by omega) (by omega)) ?_
 refine gr rfl (by exact WX rfl rfl (by omega) (by omega)) ?_
 refine gas rfl rfl<|gA<|Zb<|Zb<|Za<|gr rfl (Zd rfl (YR _))<|gr rfl (Zi Tryz.underlying3 rfl rfl (by exact Zp 0 rfl rfl)) ?_
 refine gr rfl (ZX rfl rfl) (Zw (fun h14=>?_) (fun h14=>?_))
 ·refine gA<|Zk rfl<|Zb<|Za<|gm rfl rfl<|gr rfl (by exact XR rfl rfl (by omega) (by omega)) ?_
  refine gas rfl rfl<|gA<|Zu<|Zh<|Zy (.inl rfl) Tryz.results54 rfl [] (by decide) ?_
  refine ⟨congrArg (Value.int .i64) (Eq.symm ?_),rfl⟩
  unfold kyP
  rw [if_pos h14]
 refine gA<|Zl rfl<|Zv<|Ze<|Zb<|Za<|gm rfl rfl<|gr rfl (by exact XR rfl rfl (by omega) (by omega)) ?_
 refine gr rfl (Zd rfl (YR _))<|gr rfl (Zi Tryz.underlying3 rfl rfl (by exact Zp 0 rfl rfl)) ?_
 refine gr rfl (by exact Zgy rfl rfl (by omega) (by omega)) ?_
 refine gr rfl (by exact XR rfl rfl (by omega) (by omega)) ?_
 refine gas rfl rfl<|gA<|Zu<|Zy (.inl rfl) Tryz.results54 rfl [] (by decide) ?_
 refine ⟨congrArg (Value.int .i64) (Eq.symm ?_),rfl⟩
 unfold kyP
 rw [if_neg h14]
theorem Ze9 (s:Org) (bp bs:Nat) (w0:World) (hP:PsIn s bp bs w0 []) (x:Pis):Sp Tryz.prog 44 [.pointer (some ⟨bp,0,none⟩),Pis.val x] w0 [] (RV (.int .i64 (pnE s.ds.length x))):=by
 have hp:=hP.p
 have hp2:=hP.sp
 have hnd:=hP.nd
 have hns:=hP.ns
 have hnc:=hP.nc
 refine ZC Tryz.func44 rfl Tryz.ntmps44 rfl (Own.refl _) ?_
 simp only [ZV]
 refine Zb<|Za<|Zt (Z6 rfl rfl rfl (fun b3=>?_))
 refine gas rfl rfl<|gA<|Zb<|Za<|gas rfl rfl<|gA<|Zb<|Zb<|Za<|gr rfl (Zd rfl (YR _))<|gr rfl (Zi Tryz.underlying3 rfl rfl (by exact Zp 0 rfl rfl)) ?_
 refine gr rfl (Z8 rfl rfl) (Zw (fun h8=>?_) (fun h8=>?_))
 ·refine gA<|Zk rfl<|Za<|gas rfl rfl<|gA<|Zb<|ZB<|Zb<|Za<|gr rfl (Zd rfl (X9 _))<|gr rfl (Zi Tryz.underlying3 rfl rfl (by exact Zp 0 rfl rfl)) ?_
  refine gr rfl (ZX rfl rfl) (Zw (fun hd1=>?_) (fun hd1=>?_))
  ·refine gm rfl rfl<|Zj rfl rfl rfl<|Zj rfl rfl rfl<|Zj rfl rfl rfl<|gr rfl (Zq rfl rfl)<|gm rfl rfl<|Zj rfl rfl rfl<|Zj rfl rfl rfl<|Zj rfl rfl rfl<|gr rfl (Zq rfl rfl)<|gm rfl rfl<|Zj rfl rfl rfl<|Zj rfl rfl rfl<|Zj rfl rfl rfl<|Zj rfl rfl rfl<|gr rfl (Zq rfl rfl)<|gas rfl rfl<|gA<|Zk rfl<|Zb<|Za<|gas rfl rfl<|ZM<|Ze ?_
   refine Zu<|Zx<|Zh<|Zy (.inl rfl) Tryz.results44 rfl [] (by decide) ?_
   refine ⟨congrArg (Value.int .i64) (Eq.symm ?_),rfl⟩
   unfold pnE
   rw [if_pos h8]
   rw [if_pos (by omega)]
  refine gm rfl rfl<|Zg rfl rfl<|Zm rfl (Zd rfl (X9 _))<|Zg rfl rfl (Zm rfl (Zi Tryz.underlying3 rfl rfl (by exact Zp 0 rfl rfl)) ?_)
  refine Zg rfl rfl (Zm rfl (Yk rfl rfl) (Zw (fun hd2=>?_) (fun hd2=>?_)))
  ·refine gr rfl (Zn rfl rfl)<|gm rfl rfl<|Zj rfl rfl rfl<|Zj rfl rfl rfl<|Zj rfl rfl rfl<|gr rfl (Zq rfl rfl)<|gm rfl rfl<|Zj rfl rfl rfl<|Zj rfl rfl rfl<|Zj rfl rfl rfl<|Zj rfl rfl rfl<|gr rfl (Zq rfl rfl)<|gas rfl rfl<|gA<|Zk rfl<|Zb<|Za<|gas rfl rfl<|gA<|Zu<|Zx<|Zh<|Zy (.inl rfl) Tryz.results44 rfl [] (by decide) ?_
   refine ⟨congrArg (Value.int .i64) (Eq.symm ?_),rfl⟩
   unfold pnE
   rw [if_pos h8]
   rw [if_pos (by omega)]
  refine gr rfl (Zn rfl rfl)<|gm rfl rfl<|Zg rfl rfl<|Zm rfl (Zd rfl (Vh _))<|Zg rfl rfl (Zm rfl (Zi Tryz.underlying3 rfl rfl (by exact Zp 0 rfl rfl)) ?_)
  refine Zg rfl rfl (Zm rfl (ZX rfl rfl) (Zw (fun hd3=>?_) (fun hd3=>?_)))
  ·refine gr rfl (Zn rfl rfl)<|gm rfl rfl<|Zj rfl rfl rfl<|Zj rfl rfl rfl<|Zj rfl rfl rfl<|Zj rfl rfl rfl<|gr rfl (Zq rfl rfl)<|gas rfl rfl<|gA<|Zk rfl<|Zb<|Za<|gas rfl rfl<|gA<|Zu<|Zx<|Zh<|Zy (.inl rfl) Tryz.results44 rfl [] (by decide) ?_
   refine ⟨congrArg (Value.int .i64) (Eq.symm ?_),rfl⟩
   unfold pnE
   rw [if_pos h8]
   rw [if_pos (by omega)]
  refine gr rfl (Zn rfl rfl)<|gm rfl rfl<|Zg rfl rfl<|Zm rfl (Zd rfl (Vh _))<|Zg rfl rfl (Zm rfl (Zi Tryz.underlying3 rfl rfl (by exact Zp 0 rfl rfl)) ?_)
  refine Zg rfl rfl<|Zm rfl (Zo rfl)<|Zg rfl rfl (Zm rfl (Yk rfl rfl) (Zw (fun hd4=>?_) (fun hd4=>?_)))
  ·refine gr rfl (Zn rfl rfl)<|gas rfl rfl<|gA<|Zk rfl<|Zb<|Za<|gas rfl rfl<|gA<|Zu<|Zx<|Zh<|Zy (.inl rfl) Tryz.results44 rfl [] (by decide) ?_
   refine ⟨congrArg (Value.int .i64) (Eq.symm ?_),rfl⟩
   unfold pnE
   rw [if_pos h8]
   rw [if_pos (by omega)]
  refine gr rfl (Zn rfl rfl)<|gas rfl rfl<|gA<|Zl rfl<|Zb<|ZO [0] true 14 rfl<|Zc 0 rfl rfl ⟨[0],by decide,rfl⟩ (Zf (Zd rfl (YR _))) ?_
  refine Zc 1 rfl rfl ⟨[0],by decide,rfl⟩ (Zf (Zi Tryz.underlying3 rfl rfl (by exact Zp 0 rfl rfl))) ?_
  refine Zc 2 rfl rfl ⟨[0],by decide,rfl⟩ (Zf (ZX rfl rfl)) (Zw (fun hd5=>?_) (fun hd5=>?_))
  ·refine Zc 3 rfl rfl ⟨[0],by decide,rfl⟩ (Zf (Zo rfl)) ?_
   refine ZF 4 rfl rfl rfl rfl rfl ⟨[0],by decide,rfl⟩ ?_
   refine ZF 5 rfl rfl rfl rfl rfl ⟨[0],by decide,rfl⟩ ?_
   refine ZF 6 rfl rfl rfl rfl rfl ⟨[0],by decide,rfl⟩ ?_
   refine ZF 7 rfl rfl rfl rfl rfl ⟨[0],by decide,rfl⟩ ?_
   refine ZF 8 rfl rfl rfl rfl rfl ⟨[0],by decide,rfl⟩ ?_
   refine ZF 9 rfl rfl rfl rfl rfl ⟨[0],by decide,rfl⟩ ?_
   refine ZF 10 rfl rfl rfl rfl rfl ⟨[0],by decide,rfl⟩ ?_
   refine ZF 11 rfl rfl rfl rfl rfl ⟨[0],by decide,rfl⟩ ?_
   refine ZF 12 rfl rfl rfl rfl rfl ⟨[0],by decide,rfl⟩ ?_
   refine Zc 13 rfl rfl ⟨[0],by decide,rfl⟩ (Zf (Zq rfl rfl)) ?_
   refine Zc 14 rfl rfl ⟨[0],by decide,rfl⟩ (Zf (ZY rfl)) ?_
   refine ZP (.inr ⟨[0],by decide,rfl⟩) ?_
   refine Ze<|Zk rfl<|Zb<|Za<|gas rfl rfl<|gA<|Zu<|Zx<|Zh<|Zy (.inl rfl) Tryz.results44 rfl [] (by decide) ?_
   refine ⟨congrArg (Value.int .i64) (Eq.symm ?_),rfl⟩
   unfold pnE
   rw [if_pos h8]
   rw [if_neg (by omega),if_pos (by omega)]
  refine Zc 3 rfl rfl ⟨[0],by decide,rfl⟩ (Zf (Zo rfl)) ?_
  refine ZG 4 rfl rfl rfl rfl rfl ⟨[0],by decide,rfl⟩ (Zf (Zd rfl (YR _))) ?_
  refine ZG 5 rfl rfl rfl rfl rfl ⟨[0],by decide,rfl⟩ (Zf (Zi Tryz.underlying3 rfl rfl (by exact Zp 0 rfl rfl))) ?_
  refine ZG 6 rfl rfl rfl rfl rfl ⟨[0],by decide,rfl⟩ (Zf (Zo rfl)) ?_
  refine ZG 7 rfl rfl rfl rfl rfl ⟨[0],by decide,rfl⟩ (Zf (ZN rfl)) ?_
  refine ZG 8 rfl rfl rfl rfl rfl ⟨[0],by decide,rfl⟩ (Zf (Zd rfl (Zat _))) ?_
  refine ZG 9 rfl rfl rfl rfl rfl ⟨[0],by decide,rfl⟩ (Zf (Zd rfl (YS _))) ?_
  refine ZG 10 rfl rfl rfl rfl rfl ⟨[0],by decide,rfl⟩ (Zf (Zi Tryz.underlying40 rfl rfl (by exact Yj (by assumption) (by simp) rfl))) ?_
  refine ZG 11 rfl rfl rfl rfl rfl ⟨[0],by decide,rfl⟩ (Zf (ZA Tryz.underlying40 rfl)) ?_
  refine ZG 12 rfl rfl rfl rfl rfl ⟨[0],by decide,rfl⟩ (Zf (Xs rfl rfl)) (Zw (fun hd6=>?_) (fun hd6=>?_))
  ·refine Zc 13 rfl rfl ⟨[0],by decide,rfl⟩ (Zf (Zn rfl rfl)) ?_
   refine Zc 14 rfl rfl ⟨[0],by decide,rfl⟩ (Zf (ZY rfl)) ?_
   refine ZP (.inr ⟨[0],by decide,rfl⟩) ?_
   refine Ze<|Zk rfl<|Zb<|Za<|gas rfl rfl<|gA<|Zu<|Zx<|Zh<|Zy (.inl rfl) Tryz.results44 rfl [] (by decide) ?_
   refine ⟨congrArg (Value.int .i64) (Eq.symm ?_),rfl⟩
   unfold pnE
   rw [if_pos h8]
   rw [if_neg (by omega),if_pos (by omega)]
  refine Zc 13 rfl rfl ⟨[0],by decide,rfl⟩ (Zf (Zn rfl rfl)) ?_
  refine Zc 14 rfl rfl ⟨[0],by decide,rfl⟩ (Zf (ZY rfl)) ?_
  refine ZP (.inr ⟨[0],by decide,rfl⟩) ?_
  refine Ze<|Zl rfl<|Zv<|ZI<|Ze<|Zb<|Za<|gas rfl rfl<|gA<|Zu<|Zy (.inl rfl) Tryz.results44 rfl [] (by decide) ?_
  refine ⟨congrArg (Value.int .i64) (Eq.symm ?_),rfl⟩
  unfold pnE
  rw [if_pos h8]
  rw [if_neg (by omega),if_neg (by omega)]
 refine gA<|Zl rfl<|Zv<|Ze<|Zb<|ZB<|Zb<|Za<|gr rfl (Zd rfl (X9 _))<|gr rfl (Zi Tryz.underlying3 rfl rfl (by exact Zp 0 rfl rfl)) ?_
 refine gr rfl (ZX rfl rfl) (Zw (fun hd7=>?_) (fun hd7=>?_))
 ·refine gm rfl rfl<|Zj rfl rfl rfl<|Zj rfl rfl rfl<|Zj rfl rfl rfl<|gr rfl (Zq rfl rfl)<|gm rfl rfl<|Zj rfl rfl rfl<|Zj rfl rfl rfl<|Zj rfl rfl rfl<|gr rfl (Zq rfl rfl)<|gm rfl rfl<|Zj rfl rfl rfl<|Zj rfl rfl rfl<|Zj rfl rfl rfl<|Zj rfl rfl rfl<|gr rfl (Zq rfl rfl)<|gas rfl rfl<|gA<|Zk rfl<|Zb<|Za<|gas rfl rfl<|ZM<|Ze ?_
  refine Zu<|Zx<|Zh<|Zy (.inl rfl) Tryz.results44 rfl [] (by decide) ?_
  refine ⟨congrArg (Value.int .i64) (Eq.symm ?_),rfl⟩
  unfold pnE
  rw [if_neg h8]
  rw [if_pos (by omega)]
 refine gm rfl rfl<|Zg rfl rfl<|Zm rfl (Zd rfl (X9 _))<|Zg rfl rfl (Zm rfl (Zi Tryz.underlying3 rfl rfl (by exact Zp 0 rfl rfl)) ?_)
 refine Zg rfl rfl (Zm rfl (Yk rfl rfl) (Zw (fun hd8=>?_) (fun hd8=>?_)))
 ·refine gr rfl (Zn rfl rfl)<|gm rfl rfl<|Zj rfl rfl rfl<|Zj rfl rfl rfl<|Zj rfl rfl rfl<|gr rfl (Zq rfl rfl)<|gm rfl rfl<|Zj rfl rfl rfl<|Zj rfl rfl rfl<|Zj rfl rfl rfl<|Zj rfl rfl rfl<|gr rfl (Zq rfl rfl)<|gas rfl rfl<|gA<|Zk rfl<|Zb<|Za<|gas rfl rfl<|gA<|Zu<|Zx<|Zh<|Zy (.inl rfl) Tryz.results44 rfl [] (by decide) ?_
  refine ⟨congrArg (Value.int .i64) (Eq.symm ?_),rfl⟩
  unfold pnE
  rw [if_neg h8]
  rw [if_pos (by omega)]
 refine gr rfl (Zn rfl rfl)<|gm rfl rfl<|Zg rfl rfl<|Zm rfl (Zd rfl (Vh _))<|Zg rfl rfl (Zm rfl (Zi Tryz.underlying3 rfl rfl (by exact Zp 0 rfl rfl)) ?_)
 refine Zg rfl rfl (Zm rfl (ZX rfl rfl) (Zw (fun hd9=>?_) (fun hd9=>?_)))
 ·refine gr rfl (Zn rfl rfl)<|gm rfl rfl<|Zj rfl rfl rfl<|Zj rfl rfl rfl<|Zj rfl rfl rfl<|Zj rfl rfl rfl<|gr rfl (Zq rfl rfl)<|gas rfl rfl<|gA<|Zk rfl<|Zb<|Za<|gas rfl rfl<|gA<|Zu<|Zx<|Zh<|Zy (.inl rfl) Tryz.results44 rfl [] (by decide) ?_
  refine ⟨congrArg (Value.int .i64) (Eq.symm ?_),rfl⟩
  unfold pnE
  rw [if_neg h8]
  rw [if_pos (by omega)]
 refine gr rfl (Zn rfl rfl)<|gm rfl rfl<|Zg rfl rfl<|Zm rfl (Zd rfl (Vh _))<|Zg rfl rfl (Zm rfl (Zi Tryz.underlying3 rfl rfl (by exact Zp 0 rfl rfl)) ?_)
 refine Zg rfl rfl<|Zm rfl (Zo rfl)<|Zg rfl rfl (Zm rfl (Yk rfl rfl) (Zw (fun hd10=>?_) (fun hd10=>?_)))
 ·refine gr rfl (Zn rfl rfl)<|gas rfl rfl<|gA<|Zk rfl<|Zb<|Za<|gas rfl rfl<|gA<|Zu<|Zx<|Zh<|Zy (.inl rfl) Tryz.results44 rfl [] (by decide) ?_
  refine ⟨congrArg (Value.int .i64) (Eq.symm ?_),rfl⟩
  unfold pnE
  rw [if_neg h8]
  rw [if_pos (by omega)]
 refine gr rfl (Zn rfl rfl)<|gas rfl rfl<|gA<|Zl rfl<|Zb<|ZO [0] true 14 rfl<|Zc 0 rfl rfl ⟨[0],by decide,rfl⟩ (Zf (Zd rfl (YR _))) ?_
 refine Zc 1 rfl rfl ⟨[0],by decide,rfl⟩ (Zf (Zi Tryz.underlying3 rfl rfl (by exact Zp 0 rfl rfl))) ?_
 refine Zc 2 rfl rfl ⟨[0],by decide,rfl⟩ (Zf (ZX rfl rfl)) (Zw (fun hd11=>?_) (fun hd11=>?_))
 ·refine Zc 3 rfl rfl ⟨[0],by decide,rfl⟩ (Zf (Zo rfl)) ?_
  refine ZF 4 rfl rfl rfl rfl rfl ⟨[0],by decide,rfl⟩ ?_
  refine ZF 5 rfl rfl rfl rfl rfl ⟨[0],by decide,rfl⟩ ?_
  refine ZF 6 rfl rfl rfl rfl rfl ⟨[0],by decide,rfl⟩ ?_
  refine ZF 7 rfl rfl rfl rfl rfl ⟨[0],by decide,rfl⟩ ?_
  refine ZF 8 rfl rfl rfl rfl rfl ⟨[0],by decide,rfl⟩ ?_
  refine ZF 9 rfl rfl rfl rfl rfl ⟨[0],by decide,rfl⟩ ?_
  refine ZF 10 rfl rfl rfl rfl rfl ⟨[0],by decide,rfl⟩ ?_
  refine ZF 11 rfl rfl rfl rfl rfl ⟨[0],by decide,rfl⟩ ?_
  refine ZF 12 rfl rfl rfl rfl rfl ⟨[0],by decide,rfl⟩ ?_
  refine Zc 13 rfl rfl ⟨[0],by decide,rfl⟩ (Zf (Zq rfl rfl)) ?_
  refine Zc 14 rfl rfl ⟨[0],by decide,rfl⟩ (Zf (ZY rfl)) ?_
  refine ZP (.inr ⟨[0],by decide,rfl⟩) ?_
  refine Ze<|Zk rfl<|Zb<|Za<|gas rfl rfl<|gA<|Zu<|Zx<|Zh<|Zy (.inl rfl) Tryz.results44 rfl [] (by decide) ?_
  refine ⟨congrArg (Value.int .i64) (Eq.symm ?_),rfl⟩
  unfold pnE
  rw [if_neg h8]
  rw [if_neg (by omega),if_pos (by omega)]
 refine Zc 3 rfl rfl ⟨[0],by decide,rfl⟩ (Zf (Zo rfl)) ?_
 refine ZG 4 rfl rfl rfl rfl rfl ⟨[0],by decide,rfl⟩ (Zf (Zd rfl (YR _))) ?_
 refine ZG 5 rfl rfl rfl rfl rfl ⟨[0],by decide,rfl⟩ (Zf (Zi Tryz.underlying3 rfl rfl (by exact Zp 0 rfl rfl))) ?_
 refine ZG 6 rfl rfl rfl rfl rfl ⟨[0],by decide,rfl⟩ (Zf (Zo rfl)) ?_
 refine ZG 7 rfl rfl rfl rfl rfl ⟨[0],by decide,rfl⟩ (Zf (ZN rfl)) ?_
 refine ZG 8 rfl rfl rfl rfl rfl ⟨[0],by decide,rfl⟩ (Zf (Zd rfl (Zat _))) ?_
 refine ZG 9 rfl rfl rfl rfl rfl ⟨[0],by decide,rfl⟩ (Zf (Zd rfl (YS _))) ?_
 refine ZG 10 rfl rfl rfl rfl rfl ⟨[0],by decide,rfl⟩ (Zf (Zi Tryz.underlying40 rfl rfl (by exact Yj (by assumption) (by simp) rfl))) ?_
 refine ZG 11 rfl rfl rfl rfl rfl ⟨[0],by decide,rfl⟩ (Zf (ZA Tryz.underlying40 rfl)) ?_
 refine ZG 12 rfl rfl rfl rfl rfl ⟨[0],by decide,rfl⟩ (Zf (Xs rfl rfl)) (Zw (fun hd12=>?_) (fun hd12=>?_))
 ·refine Zc 13 rfl rfl ⟨[0],by decide,rfl⟩ (Zf (Zn rfl rfl)) ?_
  refine Zc 14 rfl rfl ⟨[0],by decide,rfl⟩ (Zf (ZY rfl)) ?_
  refine ZP (.inr ⟨[0],by decide,rfl⟩) ?_
  refine Ze<|Zk rfl<|Zb<|Za<|gas rfl rfl<|gA<|Zu<|Zx<|Zh<|Zy (.inl rfl) Tryz.results44 rfl [] (by decide) ?_
  refine ⟨congrArg (Value.int .i64) (Eq.symm ?_),rfl⟩
  unfold pnE
  rw [if_neg h8]
  rw [if_neg (by omega),if_pos (by omega)]
 refine Zc 13 rfl rfl ⟨[0],by decide,rfl⟩ (Zf (Zn rfl rfl)) ?_
 refine Zc 14 rfl rfl ⟨[0],by decide,rfl⟩ (Zf (ZY rfl)) ?_
 refine ZP (.inr ⟨[0],by decide,rfl⟩) ?_
 refine Ze<|Zl rfl<|Zv<|ZI<|Ze<|Zb<|Za<|gas rfl rfl<|gA<|Zu<|Zy (.inl rfl) Tryz.results44 rfl [] (by decide) ?_
 refine ⟨congrArg (Value.int .i64) (Eq.symm ?_),rfl⟩
 unfold pnE
 rw [if_neg h8]
 rw [if_neg (by omega),if_neg (by omega)]
theorem Znq (l:List Int) (a:Option Addr) (cp m:Nat) (hl:l.length≤140737488355328) (hm:m≤1000) (w0:World) (hsl:OldSl w0 [] a l.length 1 (l.map Xy)):Sp Tryz.prog 90 [.slice a l.length cp,natV m] w0 [] (RV (.int .i64 (WO l 0 ((m:Int) - 1) 4))):=by
 refine ZC Tryz.func90 rfl Tryz.ntmps90 rfl (Own.refl _) ?_
 simp only [ZV]
 refine Zb<|Za<|gas rfl rfl<|gA<|Zb<|Zb<|Za<|gm rfl rfl<|gr rfl (ZA Tryz.underlying24 rfl)<|gm rfl rfl<|gA<|ZB<|ZZ (ι:=Nat) [(0,_),(1,_),(7,_),(8,_)] [] (fun k=>k≤l.length∧∀ j,j<k→XA l 0 ((m:Int) - 1) 4 j=0) (fun k Fr0=>((9,natV k)::Fr0)) (fun k Fr0=>Fr0) (fun k=>l.length - k) 0 (⟨Nat.zero_le _,fun j h=>absurd h (Nat.not_lt_zero j)⟩) ⟨rfl,rfl,rfl,rfl,rfl,trivial⟩ ⟨[],by decide,rfl⟩ ?_
 rintro k ⟨hk,hall⟩
 refine Zb<|Za<|gr rfl (ZX rfl rfl) (Zw (fun h10=>?_) (fun h10=>?_))
 ·obtain ⟨z,hz⟩:=get_some (show k<l.length by omega)
  refine gA<|Zb<|Zk rfl<|Zv<|Ze<|Zb<|ZB<|Zb<|Za<|gm rfl rfl<|gr rfl (Z9 hsl Tryz.underlying24 Y7 rfl rfl (by omega) (by omega)) ?_
  refine gr rfl (Zi Tryz.underlying3 rfl rfl (YX hsl (Zfy hz)))<|gas rfl rfl<|gas rfl rfl<|gA<|ZB<|Zb<|Za<|gm rfl rfl<|gr rfl (ZX rfl rfl) (Zw (fun hd1=>?_) (fun hd1=>?_))
  ·refine gm rfl rfl<|Zj rfl rfl rfl<|Zj rfl rfl rfl<|Zj rfl rfl rfl<|gr rfl (Zq rfl rfl)<|gas rfl rfl<|gA<|Zk rfl<|Zb<|Za<|gas rfl rfl<|gA<|Zu<|Zx<|Zx<|Zh<|Zh<|Zx<|Zh<|Zy (.inl rfl) Tryz.results90 rfl [] (by decide) ?_
   refine ⟨congrArg (Value.int .i64) (Eq.symm ?_),rfl⟩
   have he:XA l 0 ((m:Int) - 1) 4 k=4:=Zay hz (by omega)
   exact (Vv (by omega) hall (by rw [he]; decide)).trans he
  refine gm rfl rfl<|Zg rfl rfl<|Zm rfl (Zo rfl)<|Zg rfl rfl<|Zm rfl (Zo rfl)<|Zg rfl rfl (Zm rfl (Xs rfl rfl) (Zw (fun hd2=>?_) (fun hd2=>?_)))
  ·refine gr rfl (Zn rfl rfl)<|gas rfl rfl<|gA<|Zk rfl<|Zb<|Za<|gas rfl rfl<|gA<|Zu<|Zx<|Zx<|Zh<|Zh<|Zx<|Zh<|Zy (.inl rfl) Tryz.results90 rfl [] (by decide) ?_
   refine ⟨congrArg (Value.int .i64) (Eq.symm ?_),rfl⟩
   have he:XA l 0 ((m:Int) - 1) 4 k=4:=Zay hz (by omega)
   exact (Vv (by omega) hall (by rw [he]; decide)).trans he
  refine gr rfl (Zn rfl rfl)<|gas rfl rfl<|gA<|Zl rfl<|Zb<|Za<|gm rfl rfl<|gr rfl (Yk rfl rfl) (Zw (fun h24=>?_) (fun h24=>?_))
  ·obtain ⟨y,hy⟩:=get_some (show k - 1<l.length by omega)
   refine gm rfl rfl<|Zg rfl rfl<|Zm rfl (Zo rfl)<|Zg rfl rfl<|Zm rfl (Zo rfl)<|Zg rfl rfl<|Zm rfl (Zo rfl)<|Zg rfl rfl (Zm rfl (by exact Jz (b:=1) rfl rfl (by omega) (by omega)) ?_)
   refine Zg rfl rfl (Zm rfl (Z9 hsl Tryz.underlying24 Y7 rfl rfl (by omega) (by omega)) ?_)
   refine Zg rfl rfl<|Zm rfl (Zi Tryz.underlying3 rfl rfl (YX hsl (Zfy hy)))<|Zg rfl rfl (Zm rfl (X7 rfl rfl) (Zw (fun hd3=>?_) (fun hd3=>?_)))
   ·refine gr rfl (Zq rfl rfl)<|gas rfl rfl<|gA<|Zk rfl<|Zb<|Za<|gas rfl rfl<|gA<|Zu<|Zx<|Zx<|Zh<|Zh<|Zx<|Zh<|Zy (.inl rfl) Tryz.results90 rfl [] (by decide) ?_
    refine ⟨congrArg (Value.int .i64) (Eq.symm ?_),rfl⟩
    have he:XA l 0 ((m:Int) - 1) 4 k=8:=Zd5 hz hy (by omega) (by omega) (by omega) (by omega)
    exact (Vv (by omega) hall (by rw [he]; decide)).trans he
   refine gr rfl (Zq rfl rfl)<|gas rfl rfl<|gA<|Zl rfl<|Zv<|ZI<|ZI<|Ze<|Za<|gr rfl (by exact ZL (b:=1) rfl rfl (by omega)) ?_
   refine gm rfl rfl<|ZM<|Ze ?_
   exact ZR (k+1) ⟨⟨by omega,fun j hj=>by
    rcases Nat.lt_or_eq_of_le (Nat.le_of_lt_succ hj) with h | rfl
    ·exact hall j h
    ·exact Zci hz (by omega) (by omega) (fun _=>by rw [getD_some hy]; omega)⟩,by omega⟩ ⟨rfl,rfl,rfl,rfl,rfl,trivial⟩ ⟨[],by decide,rfl⟩
  refine gm rfl rfl<|Zj rfl rfl rfl<|Zj rfl rfl rfl<|Zj rfl rfl rfl<|Zj rfl rfl rfl<|Zj rfl rfl rfl<|Zj rfl rfl rfl<|Zj rfl rfl rfl<|gr rfl (Zn rfl rfl)<|gas rfl rfl<|gA<|Zl rfl<|Zv<|ZI<|ZI<|Ze<|Za<|gr rfl (by exact ZL (b:=1) rfl rfl (by omega)) ?_
  refine gm rfl rfl<|ZM<|Ze ?_
  exact ZR (k+1) ⟨⟨by omega,fun j hj=>by
   rcases Nat.lt_or_eq_of_le (Nat.le_of_lt_succ hj) with h | rfl
   ·exact hall j h
   ·exact Zci hz (by omega) (by omega) (fun h=>by omega)⟩,by omega⟩ ⟨rfl,rfl,rfl,rfl,rfl,trivial⟩ ⟨[],by decide,rfl⟩
 refine gA<|Zb<|Zl rfl<|Z1<|Zs<|Zs<|ZE<|Ze<|Zb<|Za<|gas rfl rfl<|gA<|Zu<|Zy (.inl rfl) Tryz.results90 rfl [] (by decide) ?_
 refine ⟨congrArg (Value.int .i64) (Eq.symm ?_),rfl⟩
 exact Zax (fun j hj=>hall j (by omega))
theorem VY (s:Org) (bp bs:Nat) (w0:World) (hP:PsIn s bp bs w0 []) (ss cs:List Int) (a1 a2:Option Addr) (c1 c2:Nat) (hl1:ss.length≤140737488355328) (hl2:cs.length≤140737488355328) (h1:OldSl w0 [] a1 ss.length 1 (ss.map Xy)) (h2:OldSl w0 [] a2 cs.length 1 (cs.map Xy)):Sp Tryz.prog 45 [.pointer (some ⟨bp,0,none⟩),.agg #[.slice a1 ss.length c1,.slice a2 cs.length c2]] w0 [] (RV (.int .i64 (XB s.ss.length s.cs.length ss cs))):=by
 have hp:=hP.p
 have hp2:=hP.sp
 have hnd:=hP.nd
 have hns:=hP.ns
 have hnc:=hP.nc
 refine ZC Tryz.func45 rfl Tryz.ntmps45 rfl (Own.refl _) ?_
 simp only [ZV]
 refine Zb<|Za<|Zt (Z6 rfl rfl rfl (fun b3=>?_))
 refine gas rfl rfl<|gA<|Zb<|Zb<|ZO [0] true 9 rfl<|Zc 0 rfl rfl ⟨[0],by decide,rfl⟩ (Zf (Zd rfl (Yu _))) ?_
 refine Zc 1 rfl rfl ⟨[0],by decide,rfl⟩ (Zf (Zi Tryz.underlying24 rfl rfl (by exact Zp 0 rfl rfl))) ?_
 refine Zc 2 rfl rfl ⟨[0],by decide,rfl⟩ (Zf (Zo rfl)) ?_
 refine Zc 3 rfl rfl ⟨[0],by decide,rfl⟩ (Zf (ZN rfl)) ?_
 refine Zc 4 rfl rfl ⟨[0],by decide,rfl⟩ (Zf (Zd rfl (Zat _))) ?_
 refine Zc 5 rfl rfl ⟨[0],by decide,rfl⟩ (Zf (Zd rfl (Xg _))) ?_
 refine Zc 6 rfl rfl ⟨[0],by decide,rfl⟩ (Zf (Zi Tryz.underlying42 rfl rfl (by exact Yj (by assumption) (by simp) rfl))) ?_
 refine Zc 7 rfl rfl ⟨[0],by decide,rfl⟩ (Zf (ZA Tryz.underlying42 rfl)) ?_
 refine Zc 8 rfl rfl ⟨[0],by decide,rfl⟩ (YE (vf:=[]) (vc:=[]) rfl rfl Tryz.call90 (fun w1 ho=>Znq ss a1 c1 s.ss.length hl1 (by omega) w1 (h1.at ho)) (by rintro _ _ ⟨h,_⟩; exact h)) ?_
 refine Zc 9 rfl rfl ⟨[0],by decide,rfl⟩ (Zf (ZY rfl)) ?_
 refine ZP (.inr ⟨[0],by decide,rfl⟩) ?_
 refine Ze<|Zb<|Za<|gm rfl rfl<|gr rfl (Z4 rfl rfl) (Zw (fun h16=>?_) (fun h16=>?_))
 ·refine gA<|Zk rfl<|Zb<|Za<|gm rfl rfl<|gas rfl rfl<|gA<|Zu<|Zh<|Zy (.inl rfl) Tryz.results45 rfl [] (by decide) ?_
  refine ⟨congrArg (Value.int .i64) (Eq.symm ?_),rfl⟩
  unfold XB
  rw [if_pos h16]
 refine gA<|Zl rfl<|Zv<|Ze<|Zb<|ZO [0] true 9 rfl<|Zc 0 rfl rfl ⟨[0],by decide,rfl⟩ (Zf (Zd rfl (Yv _))) ?_
 refine Zc 1 rfl rfl ⟨[0],by decide,rfl⟩ (Zf (Zi Tryz.underlying24 rfl rfl (by exact Zp 0 rfl rfl))) ?_
 refine Zc 2 rfl rfl ⟨[0],by decide,rfl⟩ (Zf (Zo rfl)) ?_
 refine Zc 3 rfl rfl ⟨[0],by decide,rfl⟩ (Zf (ZN rfl)) ?_
 refine Zc 4 rfl rfl ⟨[0],by decide,rfl⟩ (Zf (Zd rfl (Zat _))) ?_
 refine Zc 5 rfl rfl ⟨[0],by decide,rfl⟩ (Zf (Zd rfl (XM _))) ?_
 refine Zc 6 rfl rfl ⟨[0],by decide,rfl⟩ (Zf (Zi Tryz.underlying43 rfl rfl (by exact Yj (by assumption) (by simp) rfl))) ?_
 refine Zc 7 rfl rfl ⟨[0],by decide,rfl⟩ (Zf (ZA Tryz.underlying43 rfl)) ?_
 refine Zc 8 rfl rfl ⟨[0],by decide,rfl⟩ (YE (vf:=[]) (vc:=[]) rfl rfl Tryz.call90 (fun w1 ho=>Znq cs a2 c2 s.cs.length hl2 (by omega) w1 (h2.at ho)) (by rintro _ _ ⟨h,_⟩; exact h)) ?_
 refine Zc 9 rfl rfl ⟨[0],by decide,rfl⟩ (Zf (ZY rfl)) ?_
 refine ZP (.inr ⟨[0],by decide,rfl⟩) ?_
 refine Ze<|Zu<|Zy (.inl rfl) Tryz.results45 rfl [] (by decide) ?_
 refine ⟨congrArg (Value.int .i64) (Eq.symm ?_),rfl⟩
 unfold XB
 rw [if_neg h16]
theorem Zck (bp:Nat) (b:Bool) (w0:World) (hc:w0.cell? ⟨bp,0,none⟩=some (.bool b)):Sp Tryz.prog 43 [.pointer (some ⟨bp,0,none⟩)] w0 [] (RV (.bool (!b))):=by
 refine ZC Tryz.func43 rfl Tryz.ntmps43 rfl (Own.refl _) ?_
 simp only [ZV]
 refine Zb<|Za<|gas rfl rfl<|gA<|Zb<|Za<|gm rfl rfl<|gr rfl (X6 eg_36 Tryz.underlying36 rfl rfl)<|gm rfl rfl<|Zg rfl rfl<|Zm rfl (Zo rfl)<|Zg rfl rfl<|Zm rfl (ZN rfl)<|Zg rfl rfl<|Zm rfl (Zd rfl (fa_52_0 _))<|Zg rfl rfl (Zm rfl (Zi Tryz.underlying4 rfl rfl (JR hc (by simp))) ?_)
 refine Zg rfl rfl<|Zm rfl (rd_not rfl)<|gr rfl (Zn rfl rfl)<|gas rfl rfl<|gA<|Zu<|Zy (.inl rfl) Tryz.results43 rfl [] (by decide) ?_
 exact ⟨rfl,rfl⟩
end Go.Proofs.YthcbcdjkfefnlaaGreatDoor
namespace Go.Proofs.YthcbcdjkfefnlaaGreatDoor
open Go.Gv
open Go.RowKit
open Go.Sn hiding En keysP keysP_len stop_ok
open Go.Ps
open Iv Sx Ip
theorem pack_okP (ss cs:List Nat) (a1 a2:Option Addr) (c1 c2:Nat) (hs:∀ i∈ss,i<80) (hc:∀ i∈cs,i<24) (hsl:ss.length≤1000) (hcl:cs.length≤1000) (w0:World) (h1:OldSl w0 [] a1 ss.length 1 (ss.map natV)) (h2:OldSl w0 [] a2 cs.length 1 (cs.map natV)):Sp Tryz.prog 55 [.agg #[.slice a1 ss.length c1,.slice a2 cs.length c2]] w0 [] (fun v L=>∃ b,v=.slice (rowA (some b)) 14 14∧L=[.row 5 1 (some b) 14 14 ((packR ss cs).map u8V)]):=by
 refine ZC Tryz.func55 rfl Tryz.ntmps55 rfl (Own.refl _) ?_
 simp only [ZV]
 refine Zb<|Za<|Zt (Z6 rfl rfl rfl (fun b1=>?_))
 refine gas rfl rfl<|gA<|Zb<|Za<|Zt (Zal (14) Tryz.underlying65 YJ rfl rfl rfl (by omega) (by omega) (by omega) (by omega) (fun b8=>?_))
 refine gas rfl rfl<|gA<|Zb ?_
 rw [Zgz _ rfl]
 refine Za<|gm rfl rfl<|gr rfl (Ys 0 rfl Tryz.underlying65 YJ rfl rfl (by omega) (by omega)) ?_
 refine Zt (Zfm 0 YJ rfl rfl rfl rfl (by simp) (by rfl) ?_)
 refine gA<|Zb<|Zb ?_
 change GK _ _ _ _ _ _ [.row 5 1 (some b8) 14 14 (pk0.map u8V),.blk b1 _ _]
 refine Za<|gr rfl (Zd rfl (Yu _))<|gr rfl (Zi Tryz.underlying24 rfl rfl (by exact Zp 1 rfl rfl)) ?_
 refine gr rfl (ZA Tryz.underlying24 rfl)<|gm rfl rfl<|gA<|ZB<|ZZ (ι:=Nat) [(1,_),(3,_),(12,_),(13,_)] [_] (fun k=>k≤ss.length) (fun k Fr0=>((14,natV k)::Fr0)) (fun k Fr0=>(.row 5 1 (some b8) 14 14 ((packS pk0 1 (ss.take k)).map u8V)::Fr0)) (fun k=>ss.length - k) 0 (Nat.zero_le _) ⟨rfl,rfl,rfl,rfl,rfl,trivial⟩ ⟨[0,1],by decide,rfl⟩ ?_
 rintro k hk
 refine Zb<|Za<|gr rfl (ZX rfl rfl) (Zw (fun h15=>?_) (fun h15=>?_))
 ·obtain ⟨i,hx⟩:=get_some (show k<ss.length by omega)
  have hi9:=hs i (List.mem_of_getElem? hx)
  have hpl:(packS pk0 1 (ss.take k)).length=14:=by rw [VB]; rfl
  have hpl2:(((packS pk0 1 (ss.take k))).map u8V).length=14:=by rw [List.length_map]; exact hpl
  have hp8:=Zqu i
  have hlt:∀ z∈(packS pk0 1 (ss.take k)),z<256:=Zaf _ _ (pk0_lt)
  refine gA<|Zb<|Zk rfl<|Zv<|Ze<|Zb<|ZB<|Zb<|Za<|gr rfl (Z9 h1 Tryz.underlying24 Y7 rfl rfl (by omega) (by omega)) ?_
  refine gr rfl (Zi Tryz.underlying3 rfl rfl (YX h1 (Xr hx)))<|gas rfl rfl<|gA<|ZO [0,1] false 11 rfl<|Zc 0 rfl rfl ⟨[0,1],by decide,rfl⟩ (Zf (Zo rfl)) ?_
  refine Zc 1 rfl rfl ⟨[0,1],by decide,rfl⟩ (Zf (Zo rfl)) ?_
  refine Zc 2 rfl rfl ⟨[0,1],by decide,rfl⟩ (Zf (by exact JA (b:=8) rfl rfl (by omega) (by omega))) ?_
  refine Zc 3 rfl rfl ⟨[0,1],by decide,rfl⟩ (Zf (by exact ZL (a:=1) rfl rfl (by omega))) ?_
  refine Zc 4 rfl rfl ⟨[0,1],by decide,rfl⟩ (Zf (Ys 0 rfl Tryz.underlying65 YJ rfl rfl (by omega) (by omega))) ?_
  refine Zc 5 rfl rfl ⟨[0,1],by decide,rfl⟩ (Zf (Zi Tryz.underlying5 rfl rfl (WU 0 rfl (Zkp (by rw [hpl]; omega))))) ?_
  refine Zc 6 rfl rfl ⟨[0,1],by decide,rfl⟩ (Zf (Zo rfl)) ?_
  refine Zc 7 rfl rfl ⟨[0,1],by decide,rfl⟩ (Zf (by exact Vb (b:=8) rfl rfl (by omega))) ?_
  refine Zc 8 rfl rfl ⟨[0,1],by decide,rfl⟩ (Zf (Zp3 (a:=1) (b:=i % 8) (c:=2 ^ (i % 8)) rfl rfl (by omega) (Nat.one_mul _) hp8)) ?_
  refine Zc 9 rfl rfl ⟨[0,1],by decide,rfl⟩ (Zf (Zep (b:=2 ^ (i % 8)) rfl rfl (getD_lt hlt _) hp8)) ?_
  refine Zc 10 rfl rfl ⟨[0,1],by decide,rfl⟩ (Zf (Ys 0 rfl Tryz.underlying65 YJ rfl rfl (by omega) (by omega))) ?_
  refine ZK 11 rfl (.inr ⟨[0,1],by decide,rfl⟩) (YB 0 YJ rfl rfl rfl rfl (by rw [hpl2]; omega) (Znr hx rfl) (by rfl) ?_)
  refine ZP (.inl (by kernel_rfl)) ?_
  refine ZI<|Ze<|Za<|gr rfl (by exact ZL (b:=1) rfl rfl (by omega)) ?_
  refine gm rfl rfl<|ZM<|Ze ?_
  exact ZR (k+1) ⟨by omega,by omega⟩ ⟨rfl,rfl,rfl,rfl,rfl,trivial⟩ ⟨[0,1],by decide,rfl⟩
 refine gA<|Zb<|Zl rfl<|Z1<|Zs<|Zs<|ZE<|Ze<|Zb<|Zb ?_
 have hk9:k=ss.length:=by omega
 subst hk9
 rw [List.take_length]
 refine Za<|gr rfl (Zd rfl (Yv _))<|gr rfl (Zi Tryz.underlying24 rfl rfl (by exact Zp 1 rfl rfl)) ?_
 refine gr rfl (ZA Tryz.underlying24 rfl)<|gm rfl rfl<|gA<|ZB<|ZZ (ι:=Nat) [(3,_),(31,_),(32,_)] [_] (fun k=>k≤cs.length) (fun k Fr0=>((33,natV k)::Fr0)) (fun k Fr0=>(.row 5 1 (some b8) 14 14 ((packS (packS pk0 1 ss) 11 (cs.take k)).map u8V)::Fr0)) (fun k=>cs.length - k) 0 (Nat.zero_le _) ⟨rfl,rfl,rfl,rfl,trivial⟩ ⟨[0,1],by decide,rfl⟩ ?_
 rintro k hk
 refine Zb<|Za<|gr rfl (ZX rfl rfl) (Zw (fun h34=>?_) (fun h34=>?_))
 ·obtain ⟨i,hx⟩:=get_some (show k<cs.length by omega)
  have hi9:=hc i (List.mem_of_getElem? hx)
  have hpl:(packS (packS pk0 1 ss) 11 (cs.take k)).length=14:=by rw [VB,VB]; rfl
  have hpl2:(((packS (packS pk0 1 ss) 11 (cs.take k))).map u8V).length=14:=by rw [List.length_map]; exact hpl
  have hp8:=Zqu i
  have hlt:∀ z∈(packS (packS pk0 1 ss) 11 (cs.take k)),z<256:=Zaf _ _ (Zaf _ _ pk0_lt)
  refine gA<|Zb<|Zk rfl<|Zv<|Ze<|Zb<|ZB<|Zb<|Za<|gr rfl (Z9 h2 Tryz.underlying24 Y7 rfl rfl (by omega) (by omega)) ?_
  refine gr rfl (Zi Tryz.underlying3 rfl rfl (YX h2 (Xr hx)))<|gas rfl rfl<|gA<|ZO [0,1] false 11 rfl<|Zc 0 rfl rfl ⟨[0,1],by decide,rfl⟩ (Zf (Zo rfl)) ?_
  refine Zc 1 rfl rfl ⟨[0,1],by decide,rfl⟩ (Zf (Zo rfl)) ?_
  refine Zc 2 rfl rfl ⟨[0,1],by decide,rfl⟩ (Zf (by exact JA (b:=8) rfl rfl (by omega) (by omega))) ?_
  refine Zc 3 rfl rfl ⟨[0,1],by decide,rfl⟩ (Zf (by exact ZL (a:=11) rfl rfl (by omega))) ?_
  refine Zc 4 rfl rfl ⟨[0,1],by decide,rfl⟩ (Zf (Ys 0 rfl Tryz.underlying65 YJ rfl rfl (by omega) (by omega))) ?_
  refine Zc 5 rfl rfl ⟨[0,1],by decide,rfl⟩ (Zf (Zi Tryz.underlying5 rfl rfl (WU 0 rfl (Zkp (by rw [hpl]; omega))))) ?_
  refine Zc 6 rfl rfl ⟨[0,1],by decide,rfl⟩ (Zf (Zo rfl)) ?_
  refine Zc 7 rfl rfl ⟨[0,1],by decide,rfl⟩ (Zf (by exact Vb (b:=8) rfl rfl (by omega))) ?_
  refine Zc 8 rfl rfl ⟨[0,1],by decide,rfl⟩ (Zf (Zp3 (a:=1) (b:=i % 8) (c:=2 ^ (i % 8)) rfl rfl (by omega) (Nat.one_mul _) hp8)) ?_
  refine Zc 9 rfl rfl ⟨[0,1],by decide,rfl⟩ (Zf (Zep (b:=2 ^ (i % 8)) rfl rfl (getD_lt hlt _) hp8)) ?_
  refine Zc 10 rfl rfl ⟨[0,1],by decide,rfl⟩ (Zf (Ys 0 rfl Tryz.underlying65 YJ rfl rfl (by omega) (by omega))) ?_
  refine ZK 11 rfl (.inr ⟨[0,1],by decide,rfl⟩) (YB 0 YJ rfl rfl rfl rfl (by rw [hpl2]; omega) (Znr hx rfl) (by rfl) ?_)
  refine ZP (.inl (by kernel_rfl)) ?_
  refine ZI<|Ze<|Za<|gr rfl (by exact ZL (b:=1) rfl rfl (by omega)) ?_
  refine gm rfl rfl<|ZM<|Ze ?_
  exact ZR (k+1) ⟨by omega,by omega⟩ ⟨rfl,rfl,rfl,rfl,trivial⟩ ⟨[0,1],by decide,rfl⟩
 refine gA<|Zb<|Zl rfl<|Z1<|Zs<|Zs<|ZE<|Ze<|Zb<|Za<|gm rfl rfl<|gas rfl rfl<|gA<|Zu<|Zy (.inl rfl) Tryz.results55 rfl [0] (by decide) ?_
 have hk9:k=cs.length:=by omega
 subst hk9
 rw [List.take_length]
 exact ⟨b8,rfl,rfl⟩
theorem Zpk (bs:List Nat) (hbs:∀ z∈bs,z<256) (hlen:bs.length=14) (a:Option Addr) (cp:Nat) (w0:World) (hsl:OldSl w0 [] a 14 1 (bs.map u8V)):Sp Tryz.prog 91 [.slice a 14 cp] w0 [] (fun v L=>∃ (r:Option Nat) (c:Nat) (r2:Option Nat) (c2:Nat),v=.agg #[.slice (rowA r) (unpS bs 1 80).length c,.slice (rowA r2) (unpS bs 11 24).length c2]∧L=[.row 3 1 r (unpS bs 1 80).length c ((unpS bs 1 80).map natV),.row 3 1 r2 (unpS bs 11 24).length c2 ((unpS bs 11 24).map natV)]):=by
 refine ZC Tryz.func91 rfl Tryz.ntmps91 rfl (Own.refl _) ?_
 simp only [ZV]
 refine Zb<|Za<|Zt (ZU Z5 rfl rfl (fun b2=>?_))
 refine gA<|Zb<|Za<|Zt (ZU Z5 rfl rfl (fun b3=>?_))
 refine gA<|Zb<|Zb<|Za<|gm rfl rfl<|gA<|ZB<|YH 3 1<|ZZ (ι:=Nat × Option Nat × Nat) [(0,_),(2,_),(3,_)] [_] (fun q=>q.1≤80) (fun q Fr0=>((6,natV q.1)::Fr0)) (fun q Fr0=>(.blk b3 [.slice (rowA q.2.1) (unpS bs 1 q.1).length q.2.2,.slice none 0 0] 26 :: .row 3 1 q.2.1 (unpS bs 1 q.1).length q.2.2 ((unpS bs 1 q.1).map natV)::Fr0)) (fun q=>80 - q.1) (0,none,0) (by simp) ⟨rfl,rfl,rfl,rfl,trivial⟩ ⟨[1,0,2],by decide,rfl⟩ ?_
 rintro ⟨k,r,c⟩ hk
 simp only at hk ⊢
 refine Zb<|Za<|gr rfl (ZX rfl rfl) (Zw (fun h7=>?_) (fun h7=>?_))
 ·have hk8:k<80:=by omega
  have hul:=Zns bs 1 k
  have hb8:=getD_lt hbs (1+k / 8)
  refine gA<|Zb<|Zk rfl<|Zv<|Ze<|Zb<|ZB<|Zb<|Za<|gm rfl rfl<|gas rfl rfl<|gA<|Zb<|Za<|gm rfl rfl<|gm rfl rfl<|gr rfl (by exact JA (b:=8) rfl rfl (by omega) (by omega)) ?_
  refine gr rfl (by exact ZL (a:=1) rfl rfl (by omega)) ?_
  refine gr rfl (Z9 hsl Tryz.underlying65 YJ rfl rfl (by omega) (by omega)) ?_
  refine gr rfl (Zi Tryz.underlying5 rfl rfl (YX hsl (Zkp (by rw [hlen]; omega)))) ?_
  refine gm rfl rfl<|gr rfl (by exact Vb (b:=8) rfl rfl (by omega)) ?_
  refine gr rfl (Zp4 (b:=k % 8) rfl rfl (by omega)) ?_
  refine gr rfl (Zdi (b:=1) rfl rfl (Nat.lt_of_le_of_lt (by rw [Nat.shiftRight_eq_div_pow]; exact Nat.div_le_self _ _) hb8) (by decide)) ?_
  refine gr rfl (Z8 rfl rfl) (Zw (fun hq=>?_) (fun hq=>?_))
  ·have hbit:JZ bs 1 k=true:=(Zgu _ _).1 (by exact_mod_cast hq)
   refine gA<|Zk rfl<|Za<|gr rfl (Zd rfl (Yu _))<|gr rfl (Zi Tryz.underlying24 rfl rfl (by exact Zp 0 rfl rfl)) ?_
   refine gm rfl rfl<|Zt (ZQ (sz:=1) rfl rfl (fun _=>YK _) rfl rfl (fun b23=>?_))
   refine Zt (Yb 2 0 Tryz.underlying24 Y7 rfl (by decide) rfl rfl rfl rfl rfl (by simp [Value.oneCell']) (by omega) (by omega) (fun _=>(by rfl)) (fun r24 c24=>?_))
   refine gr rfl (Zd rfl (Yu _))<|Zt (Yc 1 WG rfl rfl rfl rfl rfl (by rfl) (by rfl) ?_)
   refine ZM<|ZI<|Ze<|Za<|gr rfl (by exact ZL (b:=1) rfl rfl (by omega)) ?_
   refine gm rfl rfl<|ZM<|Ze ?_
   have hu:=unpS_t (b:=bs) (off:=1) (k:=k) hbit
   rw [show (unpS bs 1 k).length+1=(unpS bs 1 (k+1)).length by rw [hu,List.length_append]; rfl,show (unpS bs 1 k).map natV++[natV k]=(unpS bs 1 (k+1)).map natV by rw [hu,List.map_append]; rfl]
   exact ZR ((k+1,r24,c24)) ⟨by simp only; omega,by simp only; omega⟩ ⟨rfl,rfl,rfl,rfl,trivial⟩ ⟨[1,2,3],by decide,rfl⟩
  have hbit:JZ bs 1 k=false:=by
   rw [← Bool.not_eq_true]
   exact fun e=>hq (by exact_mod_cast (Zgu _ _).2 e)
  refine gA<|Zl rfl<|Zv<|ZI<|Ze<|Za<|gr rfl (by exact ZL (b:=1) rfl rfl (by omega)) ?_
  refine gm rfl rfl<|ZM<|Ze ?_
  rw [← unpS_f (b:=bs) (off:=1) (k:=k) hbit]
  exact ZR ((k+1,r,c)) ⟨by simp only; omega,by simp only; omega⟩ ⟨rfl,rfl,rfl,rfl,trivial⟩ ⟨[0,1,2],by decide,rfl⟩
 refine gA<|Zb<|Zl rfl<|Z1<|Zs<|Zs<|ZE<|Ze<|Zb<|Zb<|Za<|gm rfl rfl<|gA<|ZB<|YH 3 1 ?_
 have hk9:k=80:=by omega
 subst hk9
 refine ZZ (ι:=Nat × Option Nat × Nat) [(0,_),(2,_),(3,_)] [_,_] (fun q=>q.1≤24) (fun q Fr0=>((27,natV q.1)::Fr0)) (fun q Fr0=>(.blk b3 [.slice (rowA r) (unpS bs 1 80).length c,.slice (rowA q.2.1) (unpS bs 11 q.1).length q.2.2] 26 :: .row 3 1 q.2.1 (unpS bs 11 q.1).length q.2.2 ((unpS bs 11 q.1).map natV)::Fr0)) (fun q=>24 - q.1) (0,none,0) (by simp) ⟨rfl,rfl,rfl,rfl,trivial⟩ ⟨[1,0,2,3],by decide,rfl⟩ ?_
 rintro ⟨k,rC,cC⟩ hk
 simp only at hk ⊢
 refine Zb<|Za<|gr rfl (ZX rfl rfl) (Zw (fun h28=>?_) (fun h28=>?_))
 ·have hk8:k<24:=by omega
  have hul:=Zns bs 11 k
  have hb8:=getD_lt hbs (11+k / 8)
  refine gA<|Zb<|Zk rfl<|Zv<|Ze<|Zb<|ZB<|Zb<|Za<|gm rfl rfl<|gas rfl rfl<|gA<|Zb<|Za<|gm rfl rfl<|gm rfl rfl<|gr rfl (by exact JA (b:=8) rfl rfl (by omega) (by omega)) ?_
  refine gr rfl (by exact ZL (a:=11) rfl rfl (by omega)) ?_
  refine gr rfl (Z9 hsl Tryz.underlying65 YJ rfl rfl (by omega) (by omega)) ?_
  refine gr rfl (Zi Tryz.underlying5 rfl rfl (YX hsl (Zkp (by rw [hlen]; omega)))) ?_
  refine gm rfl rfl<|gr rfl (by exact Vb (b:=8) rfl rfl (by omega)) ?_
  refine gr rfl (Zp4 (b:=k % 8) rfl rfl (by omega)) ?_
  refine gr rfl (Zdi (b:=1) rfl rfl (Nat.lt_of_le_of_lt (by rw [Nat.shiftRight_eq_div_pow]; exact Nat.div_le_self _ _) hb8) (by decide)) ?_
  refine gr rfl (Z8 rfl rfl) (Zw (fun hq=>?_) (fun hq=>?_))
  ·have hbit:JZ bs 11 k=true:=(Zgu _ _).1 (by exact_mod_cast hq)
   refine gA<|Zk rfl<|Za<|gr rfl (Zd rfl (Yv _))<|gr rfl (Zi Tryz.underlying24 rfl rfl (by exact Zp 0 rfl rfl)) ?_
   refine gm rfl rfl<|Zt (ZQ (sz:=1) rfl rfl (fun _=>YK _) rfl rfl (fun b44=>?_))
   refine Zt (Yb 2 0 Tryz.underlying24 Y7 rfl (by decide) rfl rfl rfl rfl rfl (by simp [Value.oneCell']) (by omega) (by omega) (fun _=>(by rfl)) (fun r45 c45=>?_))
   refine gr rfl (Zd rfl (Yv _))<|Zt (Yc 1 WG rfl rfl rfl rfl rfl (by rfl) (by rfl) ?_)
   refine ZM<|ZI<|Ze<|Za<|gr rfl (by exact ZL (b:=1) rfl rfl (by omega)) ?_
   refine gm rfl rfl<|ZM<|Ze ?_
   have hu:=unpS_t (b:=bs) (off:=11) (k:=k) hbit
   rw [show (unpS bs 11 k).length+1=(unpS bs 11 (k+1)).length by rw [hu,List.length_append]; rfl,show (unpS bs 11 k).map natV++[natV k]=(unpS bs 11 (k+1)).map natV by rw [hu,List.map_append]; rfl]
   exact ZR ((k+1,r45,c45)) ⟨by simp only; omega,by simp only; omega⟩ ⟨rfl,rfl,rfl,rfl,trivial⟩ ⟨[1,2,3,4],by decide,rfl⟩
  have hbit:JZ bs 11 k=false:=by
   rw [← Bool.not_eq_true]
   exact fun e=>hq (by exact_mod_cast (Zgu _ _).2 e)
  refine gA<|Zl rfl<|Zv<|ZI<|Ze<|Za<|gr rfl (by exact ZL (b:=1) rfl rfl (by omega)) ?_
  refine gm rfl rfl<|ZM<|Ze ?_
  rw [← unpS_f (b:=bs) (off:=11) (k:=k) hbit]
  exact ZR ((k+1,rC,cC)) ⟨by simp only; omega,by simp only; omega⟩ ⟨rfl,rfl,rfl,rfl,trivial⟩ ⟨[0,1,2,3],by decide,rfl⟩
 refine gA<|Zb<|Zl rfl<|Z1<|Zs<|Zs<|ZE<|Ze<|Zb<|Za<|gr rfl (Zr Tryz.underlying26 rfl Z5 rfl (by exact ZH 0 (off:=0) (k:=2) rfl rfl) rfl) ?_
 refine Zt (Zz 3 Z5 rfl rfl rfl rfl rfl rfl (by rfl) ?_)
 refine gA<|Zu<|J2 (.inl rfl) Tryz.results91 (YC Tryz.underlying26 rfl Z5 rfl (by rfl) (ZH 3 (off:=0) (k:=2) rfl rfl)) [2,1] (by decide) ?_
 have hk9:k=24:=by omega
 subst hk9
 exact ⟨r,c,rC,cC,rfl,rfl⟩
theorem Zfc (s:Org) (bp bs:Nat) (w0:World) (hP:PsIn s bp bs w0 []) (x:Pis) (ss cs:List Nat) (a1 a2:Option Addr) (c1 c2:Nat) (hs:∀ i∈ss,i<s.ss.length) (hc:∀ i∈cs,i<s.cs.length) (hsl:ss.length≤1000) (hcl:cs.length≤1000) (h1:OldSl w0 [] a1 ss.length 1 (ss.map natV)) (h2:OldSl w0 [] a2 cs.length 1 (cs.map natV)):Sp Tryz.prog 53 [.pointer (some ⟨bp,0,none⟩),Pis.val x,.agg #[.slice a1 ss.length c1,.slice a2 cs.length c2]] w0 [] (fun v L=>∃ (r1:Option Nat) (d1:Nat) (r3:Option Nat) (d3:Nat) (r2:Option Nat) (d2:Nat) (r4:Option Nat) (d4:Nat),v=.tuple #[.agg #[.slice (rowA r1) (ss.filter (Yd s x)).length d1,.slice (rowA r3) (cs.filter (Ye s x)).length d3],.agg #[.slice (rowA r2) (ss.filter (XQ (Yd s x))).length d2,.slice (rowA r4) (cs.filter (XQ (Ye s x))).length d4]]∧L=[.row 3 1 r1 (ss.filter (Yd s x)).length d1 ((ss.filter (Yd s x)).map natV),.row 3 1 r3 (cs.filter (Ye s x)).length d3 ((cs.filter (Ye s x)).map natV),.row 3 1 r2 (ss.filter (XQ (Yd s x))).length d2 ((ss.filter (XQ (Yd s x))).map natV),.row 3 1 r4 (cs.filter (XQ (Ye s x))).length d4 ((cs.filter (XQ (Ye s x))).map natV)]):=by
 have hp:=hP.p
 have hp2:=hP.sp
 have hnd:=hP.nd
 have hns:=hP.ns
 have hnc:=hP.nc
 refine ZC Tryz.func53 rfl Tryz.ntmps53 rfl (Own.refl _) ?_
 simp only [ZV]
 refine Zb<|Za<|Zt (Z6 rfl rfl rfl (fun b4=>?_))
 refine Zt (Z6 rfl rfl rfl (fun b5=>?_))
 refine Zt (ZU Z5 rfl rfl (fun b6=>?_))
 refine Zt (ZU Z5 rfl rfl (fun b7=>?_))
 refine gA<|Zb<|Zb<|Za<|gr rfl (Zd rfl (Yu _))<|gr rfl (Zi Tryz.underlying24 rfl rfl (by exact Zp 2 rfl rfl)) ?_
 refine gr rfl (ZA Tryz.underlying24 rfl)<|gm rfl rfl<|gA<|ZB<|YH 3 1<|YH 3 1<|ZZ (ι:=Nat × (Option Nat × Nat) × (Option Nat × Nat)) [(0,_),(4,_),(5,_),(6,_),(7,_),(13,_),(14,_)] [_,_] (fun q=>q.1≤ss.length) (fun q Fr0=>((15,natV q.1)::Fr0)) (fun q Fr0=>(.blk b6 [.slice (rowA q.2.1.1) ((ss.take q.1).filter (Yd s x)).length q.2.1.2,.slice none 0 0] 26 :: .blk b7 [.slice (rowA q.2.2.1) ((ss.take q.1).filter (XQ (Yd s x))).length q.2.2.2,.slice none 0 0] 26 :: .row 3 1 q.2.1.1 ((ss.take q.1).filter (Yd s x)).length q.2.1.2 (((ss.take q.1).filter (Yd s x)).map natV) :: .row 3 1 q.2.2.1 ((ss.take q.1).filter (XQ (Yd s x))).length q.2.2.2 (((ss.take q.1).filter (XQ (Yd s x))).map natV)::Fr0)) (fun q=>ss.length - q.1) (0,(none,0),(none,0)) (Nat.zero_le _) ⟨rfl,rfl,rfl,rfl,rfl,rfl,rfl,rfl,trivial⟩ ⟨[3,2,1,0,4,5],by decide,rfl⟩ ?_
 rintro ⟨k,⟨r1,d1⟩,⟨r2,d2⟩⟩ hk
 simp only at hk ⊢
 refine Zb<|Za<|gr rfl (ZX rfl rfl) (Zw (fun h16=>?_) (fun h16=>?_))
 ·obtain ⟨i,hx⟩:=get_some (show k<ss.length by omega)
  have hi9:=hs i (List.mem_of_getElem? hx)
  obtain ⟨t,hti⟩:=get_some (show i<s.ss.length by omega)
  have hsce:=Zfa (x:=x) hti
  have hfl1:=Zcl (l:=ss) k (Yd s x)
  have hfl2:=Zcl (l:=ss) k (XQ (Yd s x))
  refine gA<|Zb<|Zk rfl<|Zv<|Ze<|Zb<|ZB<|Zb<|Za<|gr rfl (Z9 h1 Tryz.underlying24 Y7 rfl rfl (by omega) (by omega)) ?_
  refine gr rfl (Zi Tryz.underlying3 rfl rfl (YX h1 (Xr hx)))<|gas rfl rfl<|gA<|Zb<|ZO [0,1,2,3,4,5] true 16 rfl<|Zc 0 rfl rfl ⟨[0,1,2,3,4,5],by decide,rfl⟩ (Zf (Zd rfl (YR _))) ?_
  refine Zc 1 rfl rfl ⟨[0,1,2,3,4,5],by decide,rfl⟩ (Zf (Zi Tryz.underlying3 rfl rfl (by exact Zp 5 rfl rfl))) ?_
  refine Zc 2 rfl rfl ⟨[0,1,2,3,4,5],by decide,rfl⟩ (Zf (Z8 rfl rfl)) (Zw (fun hd1=>?_) (fun hd1=>?_))
  ·refine Zc 3 rfl rfl ⟨[0,1,2,3,4,5],by decide,rfl⟩ (Zf (Zo rfl)) ?_
   refine ZF 4 rfl rfl rfl rfl rfl ⟨[0,1,2,3,4,5],by decide,rfl⟩ ?_
   refine ZF 5 rfl rfl rfl rfl rfl ⟨[0,1,2,3,4,5],by decide,rfl⟩ ?_
   refine ZF 6 rfl rfl rfl rfl rfl ⟨[0,1,2,3,4,5],by decide,rfl⟩ ?_
   refine ZF 7 rfl rfl rfl rfl rfl ⟨[0,1,2,3,4,5],by decide,rfl⟩ ?_
   refine ZF 8 rfl rfl rfl rfl rfl ⟨[0,1,2,3,4,5],by decide,rfl⟩ ?_
   refine ZF 9 rfl rfl rfl rfl rfl ⟨[0,1,2,3,4,5],by decide,rfl⟩ ?_
   refine ZF 10 rfl rfl rfl rfl rfl ⟨[0,1,2,3,4,5],by decide,rfl⟩ ?_
   refine ZF 11 rfl rfl rfl rfl rfl ⟨[0,1,2,3,4,5],by decide,rfl⟩ ?_
   refine ZF 12 rfl rfl rfl rfl rfl ⟨[0,1,2,3,4,5],by decide,rfl⟩ ?_
   refine ZF 13 rfl rfl rfl rfl rfl ⟨[0,1,2,3,4,5],by decide,rfl⟩ ?_
   refine ZF 14 rfl rfl rfl rfl rfl ⟨[0,1,2,3,4,5],by decide,rfl⟩ ?_
   refine ZF 15 rfl rfl rfl rfl rfl ⟨[0,1,2,3,4,5],by decide,rfl⟩ ?_
   refine Zc 16 rfl rfl ⟨[0,1,2,3,4,5],by decide,rfl⟩ (Zf (Zq rfl rfl)) ?_
   refine ZP (.inr ⟨[0,1,2,3,4,5],by decide,rfl⟩) ?_
   refine Ze<|Zk rfl ?_
   have hsc:Yd s x i=true:=by rw [hsce]; (rw [decide_eq_true hd1]; rfl)
   refine Za<|gr rfl (Zd rfl (Yu _))<|gr rfl (Zi Tryz.underlying24 rfl rfl (by exact Zp 0 rfl rfl)) ?_
   refine gm rfl rfl<|Zt (ZQ (sz:=1) rfl rfl (fun _=>YK _) rfl rfl (fun b39=>?_))
   refine Zt (Yb 3 0 Tryz.underlying24 Y7 rfl (by decide) rfl rfl rfl rfl rfl (by simp [Value.oneCell']) (by omega) (by omega) (fun _=>(by rfl)) (fun r40 c40=>?_))
   refine gr rfl (Zd rfl (Yu _))<|Zt (Yc 1 WG rfl rfl rfl rfl rfl (by rfl) (by rfl) ?_)
   refine ZM<|ZI<|Ze<|Za<|gr rfl (by exact ZL (b:=1) rfl rfl (by omega)) ?_
   refine gm rfl rfl<|ZM<|Ze ?_
   have ht:=Zcu (k:=k) (f:=Yd s x) hx (by exact hsc)
   have hf:=Zf5 (k:=k) (f:=XQ (Yd s x)) hx (by simp [XQ,hsc])
   rw [show ((ss.take k).filter (Yd s x)).length+1=((ss.take (k+1)).filter (Yd s x)).length by rw [ht,List.length_append]; rfl,show ((ss.take k).filter (Yd s x)).map natV++[natV i]=((ss.take (k+1)).filter (Yd s x)).map natV by rw [ht,List.map_append]; rfl,← hf]
   exact ZR ((k+1,(r40,c40),(r2,d2))) ⟨by simp only; omega,by simp only; omega⟩ ⟨rfl,rfl,rfl,rfl,rfl,rfl,rfl,rfl,trivial⟩ ⟨[1,2,3,4,5,6],by decide,rfl⟩
  refine Zc 3 rfl rfl ⟨[0,1,2,3,4,5],by decide,rfl⟩ (Zf (Zo rfl)) ?_
  refine ZG 4 rfl rfl rfl rfl rfl ⟨[0,1,2,3,4,5],by decide,rfl⟩ (Zf (Zo rfl)) ?_
  refine ZG 5 rfl rfl rfl rfl rfl ⟨[0,1,2,3,4,5],by decide,rfl⟩ (Zf (ZN rfl)) ?_
  refine ZG 6 rfl rfl rfl rfl rfl ⟨[0,1,2,3,4,5],by decide,rfl⟩ (Zf (Zd rfl (Zat _))) ?_
  refine ZG 7 rfl rfl rfl rfl rfl ⟨[0,1,2,3,4,5],by decide,rfl⟩ (Zf (Zd rfl (Xg _))) ?_
  refine ZG 8 rfl rfl rfl rfl rfl ⟨[0,1,2,3,4,5],by decide,rfl⟩ (Zf (Zi Tryz.underlying42 rfl rfl (by exact Yj (by assumption) (by simp) rfl))) ?_
  refine ZG 9 rfl rfl rfl rfl rfl ⟨[0,1,2,3,4,5],by decide,rfl⟩ (Zf (Zo rfl)) ?_
  refine ZG 10 rfl rfl rfl rfl rfl ⟨[0,1,2,3,4,5],by decide,rfl⟩ (Zf (Z3 hP.t Tryz.underlying42 WN rfl rfl (by omega) (by omega))) ?_
  refine ZG 11 rfl rfl rfl rfl rfl ⟨[0,1,2,3,4,5],by decide,rfl⟩ (Zf (Zd rfl (VH _))) ?_
  refine ZG 12 rfl rfl rfl rfl rfl ⟨[0,1,2,3,4,5],by decide,rfl⟩ (Zf (Zi Tryz.underlying3 rfl rfl (XS hP.t (Y0 St.cells 5 (fun _=>rfl) hti (j:=1) (by decide) rfl)))) ?_
  refine ZG 13 rfl rfl rfl rfl rfl ⟨[0,1,2,3,4,5],by decide,rfl⟩ (Zf (Zd rfl (YR _))) ?_
  refine ZG 14 rfl rfl rfl rfl rfl ⟨[0,1,2,3,4,5],by decide,rfl⟩ (Zf (Zi Tryz.underlying3 rfl rfl (by exact Zp 5 rfl rfl))) ?_
  refine ZG 15 rfl rfl rfl rfl rfl ⟨[0,1,2,3,4,5],by decide,rfl⟩ (Zf (Z8 rfl rfl)) (Zw (fun hd2=>?_) (fun hd2=>?_))
  ·refine Zc 16 rfl rfl ⟨[0,1,2,3,4,5],by decide,rfl⟩ (Zf (Zn rfl rfl)) ?_
   refine ZP (.inr ⟨[0,1,2,3,4,5],by decide,rfl⟩) ?_
   refine Ze<|Zk rfl ?_
   have hsc:Yd s x i=true:=by rw [hsce]; (rw [decide_eq_true hd2,Bool.or_true])
   refine Za<|gr rfl (Zd rfl (Yu _))<|gr rfl (Zi Tryz.underlying24 rfl rfl (by exact Zp 0 rfl rfl)) ?_
   refine gm rfl rfl<|Zt (ZQ (sz:=1) rfl rfl (fun _=>YK _) rfl rfl (fun b39=>?_))
   refine Zt (Yb 3 0 Tryz.underlying24 Y7 rfl (by decide) rfl rfl rfl rfl rfl (by simp [Value.oneCell']) (by omega) (by omega) (fun _=>(by rfl)) (fun r40 c40=>?_))
   refine gr rfl (Zd rfl (Yu _))<|Zt (Yc 1 WG rfl rfl rfl rfl rfl (by rfl) (by rfl) ?_)
   refine ZM<|ZI<|Ze<|Za<|gr rfl (by exact ZL (b:=1) rfl rfl (by omega)) ?_
   refine gm rfl rfl<|ZM<|Ze ?_
   have ht:=Zcu (k:=k) (f:=Yd s x) hx (by exact hsc)
   have hf:=Zf5 (k:=k) (f:=XQ (Yd s x)) hx (by simp [XQ,hsc])
   rw [show ((ss.take k).filter (Yd s x)).length+1=((ss.take (k+1)).filter (Yd s x)).length by rw [ht,List.length_append]; rfl,show ((ss.take k).filter (Yd s x)).map natV++[natV i]=((ss.take (k+1)).filter (Yd s x)).map natV by rw [ht,List.map_append]; rfl,← hf]
   exact ZR ((k+1,(r40,c40),(r2,d2))) ⟨by simp only; omega,by simp only; omega⟩ ⟨rfl,rfl,rfl,rfl,rfl,rfl,rfl,rfl,trivial⟩ ⟨[1,2,3,4,5,6],by decide,rfl⟩
  refine Zc 16 rfl rfl ⟨[0,1,2,3,4,5],by decide,rfl⟩ (Zf (Zn rfl rfl)) ?_
  refine ZP (.inr ⟨[0,1,2,3,4,5],by decide,rfl⟩) ?_
  refine Ze<|Zl rfl ?_
  have hsc:Yd s x i=false:=by rw [hsce]; rw [decide_eq_false hd1,decide_eq_false hd2]; rfl
  refine Za<|gr rfl (Zd rfl (Yu _))<|gr rfl (Zi Tryz.underlying24 rfl rfl (by exact Zp 1 rfl rfl)) ?_
  refine gm rfl rfl<|Zt (ZQ (sz:=1) rfl rfl (fun _=>YK _) rfl rfl (fun b45=>?_))
  refine Zt (Yb 4 0 Tryz.underlying24 Y7 rfl (by decide) rfl rfl rfl rfl rfl (by simp [Value.oneCell']) (by omega) (by omega) (fun _=>(by rfl)) (fun r46 c46=>?_))
  refine gr rfl (Zd rfl (Yu _))<|Zt (Yc 2 WG rfl rfl rfl rfl rfl (by rfl) (by rfl) ?_)
  refine ZM<|ZI<|Ze<|Za<|gr rfl (by exact ZL (b:=1) rfl rfl (by omega)) ?_
  refine gm rfl rfl<|ZM<|Ze ?_
  have ht:=Zcu (k:=k) (f:=XQ (Yd s x)) hx (by simp [XQ,hsc])
  have hf:=Zf5 (k:=k) (f:=Yd s x) hx (by exact hsc)
  rw [show ((ss.take k).filter (XQ (Yd s x))).length+1=((ss.take (k+1)).filter (XQ (Yd s x))).length by rw [ht,List.length_append]; rfl,show ((ss.take k).filter (XQ (Yd s x))).map natV++[natV i]=((ss.take (k+1)).filter (XQ (Yd s x))).map natV by rw [ht,List.map_append]; rfl,← hf]
  exact ZR ((k+1,(r1,d1),(r46,c46))) ⟨by simp only; omega,by simp only; omega⟩ ⟨rfl,rfl,rfl,rfl,rfl,rfl,rfl,rfl,trivial⟩ ⟨[1,2,3,4,5,6],by decide,rfl⟩
 refine gA<|Zb<|Zl rfl<|Z1<|Zs<|Zs<|ZE<|Ze<|Zb<|Zb ?_
 rw [Zcm (k:=k) (Yd s x) (by omega),Zcm (k:=k) (XQ (Yd s x)) (by omega)]
 refine Za<|gr rfl (Zd rfl (Yv _))<|gr rfl (Zi Tryz.underlying24 rfl rfl (by exact Zp 4 rfl rfl)) ?_
 refine gr rfl (ZA Tryz.underlying24 rfl)<|gm rfl rfl<|gA<|ZB<|YH 3 1<|YH 3 1<|ZZ (ι:=Nat × (Option Nat × Nat) × (Option Nat × Nat)) [(0,_),(4,_),(6,_),(7,_),(50,_),(51,_)] [_,_,_,_] (fun q=>q.1≤cs.length) (fun q Fr0=>((52,natV q.1)::Fr0)) (fun q Fr0=>(.blk b6 [.slice (rowA r1) (ss.filter (Yd s x)).length d1,.slice (rowA q.2.1.1) ((cs.take q.1).filter (Ye s x)).length q.2.1.2] 26 :: .blk b7 [.slice (rowA r2) (ss.filter (XQ (Yd s x))).length d2,.slice (rowA q.2.2.1) ((cs.take q.1).filter (XQ (Ye s x))).length q.2.2.2] 26 :: .row 3 1 q.2.1.1 ((cs.take q.1).filter (Ye s x)).length q.2.1.2 (((cs.take q.1).filter (Ye s x)).map natV) :: .row 3 1 q.2.2.1 ((cs.take q.1).filter (XQ (Ye s x))).length q.2.2.2 (((cs.take q.1).filter (XQ (Ye s x))).map natV)::Fr0)) (fun q=>cs.length - q.1) (0,(none,0),(none,0)) (Nat.zero_le _) ⟨rfl,rfl,rfl,rfl,rfl,rfl,rfl,trivial⟩ ⟨[2,3,1,0,4,5,6,7],by decide,rfl⟩ ?_
 rintro ⟨k,⟨r3,d3⟩,⟨r4,d4⟩⟩ hk
 simp only at hk ⊢
 refine Zb<|Za<|gr rfl (ZX rfl rfl) (Zw (fun h53=>?_) (fun h53=>?_))
 ·obtain ⟨i,hx⟩:=get_some (show k<cs.length by omega)
  have hi9:=hc i (List.mem_of_getElem? hx)
  obtain ⟨t,hti⟩:=get_some (show i<s.cs.length by omega)
  have hsce:=Zfb (x:=x) hti
  have hfl1:=Zcl (l:=cs) k (Ye s x)
  have hfl2:=Zcl (l:=cs) k (XQ (Ye s x))
  refine gA<|Zb<|Zk rfl<|Zv<|Ze<|Zb<|ZB<|Zb<|Za<|gr rfl (Z9 h2 Tryz.underlying24 Y7 rfl rfl (by omega) (by omega)) ?_
  refine gr rfl (Zi Tryz.underlying3 rfl rfl (YX h2 (Xr hx)))<|gas rfl rfl<|gA<|Zb<|ZO [0,1,2,3,4,5,6,7] true 16 rfl<|Zc 0 rfl rfl ⟨[0,1,2,3,4,5,6,7],by decide,rfl⟩ (Zf (Zd rfl (YR _))) ?_
  refine Zc 1 rfl rfl ⟨[0,1,2,3,4,5,6,7],by decide,rfl⟩ (Zf (Zi Tryz.underlying3 rfl rfl (by exact Zp 7 rfl rfl))) ?_
  refine Zc 2 rfl rfl ⟨[0,1,2,3,4,5,6,7],by decide,rfl⟩ (Zf (Z8 rfl rfl)) (Zw (fun hd1=>?_) (fun hd1=>?_))
  ·refine Zc 3 rfl rfl ⟨[0,1,2,3,4,5,6,7],by decide,rfl⟩ (Zf (Zo rfl)) ?_
   refine ZF 4 rfl rfl rfl rfl rfl ⟨[0,1,2,3,4,5,6,7],by decide,rfl⟩ ?_
   refine ZF 5 rfl rfl rfl rfl rfl ⟨[0,1,2,3,4,5,6,7],by decide,rfl⟩ ?_
   refine ZF 6 rfl rfl rfl rfl rfl ⟨[0,1,2,3,4,5,6,7],by decide,rfl⟩ ?_
   refine ZF 7 rfl rfl rfl rfl rfl ⟨[0,1,2,3,4,5,6,7],by decide,rfl⟩ ?_
   refine ZF 8 rfl rfl rfl rfl rfl ⟨[0,1,2,3,4,5,6,7],by decide,rfl⟩ ?_
   refine ZF 9 rfl rfl rfl rfl rfl ⟨[0,1,2,3,4,5,6,7],by decide,rfl⟩ ?_
   refine ZF 10 rfl rfl rfl rfl rfl ⟨[0,1,2,3,4,5,6,7],by decide,rfl⟩ ?_
   refine ZF 11 rfl rfl rfl rfl rfl ⟨[0,1,2,3,4,5,6,7],by decide,rfl⟩ ?_
   refine ZF 12 rfl rfl rfl rfl rfl ⟨[0,1,2,3,4,5,6,7],by decide,rfl⟩ ?_
   refine ZF 13 rfl rfl rfl rfl rfl ⟨[0,1,2,3,4,5,6,7],by decide,rfl⟩ ?_
   refine ZF 14 rfl rfl rfl rfl rfl ⟨[0,1,2,3,4,5,6,7],by decide,rfl⟩ ?_
   refine ZF 15 rfl rfl rfl rfl rfl ⟨[0,1,2,3,4,5,6,7],by decide,rfl⟩ ?_
   refine Zc 16 rfl rfl ⟨[0,1,2,3,4,5,6,7],by decide,rfl⟩ (Zf (Zq rfl rfl)) ?_
   refine ZP (.inr ⟨[0,1,2,3,4,5,6,7],by decide,rfl⟩) ?_
   refine Ze<|Zk rfl ?_
   have hsc:Ye s x i=true:=by rw [hsce]; (rw [decide_eq_true hd1]; rfl)
   refine Za<|gr rfl (Zd rfl (Yv _))<|gr rfl (Zi Tryz.underlying24 rfl rfl (by exact Zp 0 rfl rfl)) ?_
   refine gm rfl rfl<|Zt (ZQ (sz:=1) rfl rfl (fun _=>YK _) rfl rfl (fun b76=>?_))
   refine Zt (Yb 3 0 Tryz.underlying24 Y7 rfl (by decide) rfl rfl rfl rfl rfl (by simp [Value.oneCell']) (by omega) (by omega) (fun _=>(by rfl)) (fun r77 c77=>?_))
   refine gr rfl (Zd rfl (Yv _))<|Zt (Yc 1 WG rfl rfl rfl rfl rfl (by rfl) (by rfl) ?_)
   refine ZM<|ZI<|Ze<|Za<|gr rfl (by exact ZL (b:=1) rfl rfl (by omega)) ?_
   refine gm rfl rfl<|ZM<|Ze ?_
   have ht:=Zcu (k:=k) (f:=Ye s x) hx (by exact hsc)
   have hf:=Zf5 (k:=k) (f:=XQ (Ye s x)) hx (by simp [XQ,hsc])
   rw [show ((cs.take k).filter (Ye s x)).length+1=((cs.take (k+1)).filter (Ye s x)).length by rw [ht,List.length_append]; rfl,show ((cs.take k).filter (Ye s x)).map natV++[natV i]=((cs.take (k+1)).filter (Ye s x)).map natV by rw [ht,List.map_append]; rfl,← hf]
   exact ZR ((k+1,(r77,c77),(r4,d4))) ⟨by simp only; omega,by simp only; omega⟩ ⟨rfl,rfl,rfl,rfl,rfl,rfl,rfl,trivial⟩ ⟨[1,2,3,4,5,6,7,8],by decide,rfl⟩
  refine Zc 3 rfl rfl ⟨[0,1,2,3,4,5,6,7],by decide,rfl⟩ (Zf (Zo rfl)) ?_
  refine ZG 4 rfl rfl rfl rfl rfl ⟨[0,1,2,3,4,5,6,7],by decide,rfl⟩ (Zf (Zo rfl)) ?_
  refine ZG 5 rfl rfl rfl rfl rfl ⟨[0,1,2,3,4,5,6,7],by decide,rfl⟩ (Zf (ZN rfl)) ?_
  refine ZG 6 rfl rfl rfl rfl rfl ⟨[0,1,2,3,4,5,6,7],by decide,rfl⟩ (Zf (Zd rfl (Zat _))) ?_
  refine ZG 7 rfl rfl rfl rfl rfl ⟨[0,1,2,3,4,5,6,7],by decide,rfl⟩ (Zf (Zd rfl (XM _))) ?_
  refine ZG 8 rfl rfl rfl rfl rfl ⟨[0,1,2,3,4,5,6,7],by decide,rfl⟩ (Zf (Zi Tryz.underlying43 rfl rfl (by exact Yj (by assumption) (by simp) rfl))) ?_
  refine ZG 9 rfl rfl rfl rfl rfl ⟨[0,1,2,3,4,5,6,7],by decide,rfl⟩ (Zf (Zo rfl)) ?_
  refine ZG 10 rfl rfl rfl rfl rfl ⟨[0,1,2,3,4,5,6,7],by decide,rfl⟩ (Zf (Z3 hP.c Tryz.underlying43 WZ rfl rfl (by omega) (by omega))) ?_
  refine ZG 11 rfl rfl rfl rfl rfl ⟨[0,1,2,3,4,5,6,7],by decide,rfl⟩ (Zf (Zd rfl (Wd _))) ?_
  refine ZG 12 rfl rfl rfl rfl rfl ⟨[0,1,2,3,4,5,6,7],by decide,rfl⟩ (Zf (Zi Tryz.underlying3 rfl rfl (XS hP.c (Y0 Cp.cells 6 (fun _=>rfl) hti (j:=1) (by decide) rfl)))) ?_
  refine ZG 13 rfl rfl rfl rfl rfl ⟨[0,1,2,3,4,5,6,7],by decide,rfl⟩ (Zf (Zd rfl (YR _))) ?_
  refine ZG 14 rfl rfl rfl rfl rfl ⟨[0,1,2,3,4,5,6,7],by decide,rfl⟩ (Zf (Zi Tryz.underlying3 rfl rfl (by exact Zp 7 rfl rfl))) ?_
  refine ZG 15 rfl rfl rfl rfl rfl ⟨[0,1,2,3,4,5,6,7],by decide,rfl⟩ (Zf (Z8 rfl rfl)) (Zw (fun hd2=>?_) (fun hd2=>?_))
  ·refine Zc 16 rfl rfl ⟨[0,1,2,3,4,5,6,7],by decide,rfl⟩ (Zf (Zn rfl rfl)) ?_
   refine ZP (.inr ⟨[0,1,2,3,4,5,6,7],by decide,rfl⟩) ?_
   refine Ze<|Zk rfl ?_
   have hsc:Ye s x i=true:=by rw [hsce]; (rw [decide_eq_true hd2,Bool.or_true])
   refine Za<|gr rfl (Zd rfl (Yv _))<|gr rfl (Zi Tryz.underlying24 rfl rfl (by exact Zp 0 rfl rfl)) ?_
   refine gm rfl rfl<|Zt (ZQ (sz:=1) rfl rfl (fun _=>YK _) rfl rfl (fun b76=>?_))
   refine Zt (Yb 3 0 Tryz.underlying24 Y7 rfl (by decide) rfl rfl rfl rfl rfl (by simp [Value.oneCell']) (by omega) (by omega) (fun _=>(by rfl)) (fun r77 c77=>?_))
   refine gr rfl (Zd rfl (Yv _))<|Zt (Yc 1 WG rfl rfl rfl rfl rfl (by rfl) (by rfl) ?_)
   refine ZM<|ZI<|Ze<|Za<|gr rfl (by exact ZL (b:=1) rfl rfl (by omega)) ?_
   refine gm rfl rfl<|ZM<|Ze ?_
   have ht:=Zcu (k:=k) (f:=Ye s x) hx (by exact hsc)
   have hf:=Zf5 (k:=k) (f:=XQ (Ye s x)) hx (by simp [XQ,hsc])
   rw [show ((cs.take k).filter (Ye s x)).length+1=((cs.take (k+1)).filter (Ye s x)).length by rw [ht,List.length_append]; rfl,show ((cs.take k).filter (Ye s x)).map natV++[natV i]=((cs.take (k+1)).filter (Ye s x)).map natV by rw [ht,List.map_append]; rfl,← hf]
   exact ZR ((k+1,(r77,c77),(r4,d4))) ⟨by simp only; omega,by simp only; omega⟩ ⟨rfl,rfl,rfl,rfl,rfl,rfl,rfl,trivial⟩ ⟨[1,2,3,4,5,6,7,8],by decide,rfl⟩
  refine Zc 16 rfl rfl ⟨[0,1,2,3,4,5,6,7],by decide,rfl⟩ (Zf (Zn rfl rfl)) ?_
  refine ZP (.inr ⟨[0,1,2,3,4,5,6,7],by decide,rfl⟩) ?_
  refine Ze<|Zl rfl ?_
  have hsc:Ye s x i=false:=by rw [hsce]; rw [decide_eq_false hd1,decide_eq_false hd2]; rfl
  refine Za<|gr rfl (Zd rfl (Yv _))<|gr rfl (Zi Tryz.underlying24 rfl rfl (by exact Zp 1 rfl rfl)) ?_
  refine gm rfl rfl<|Zt (ZQ (sz:=1) rfl rfl (fun _=>YK _) rfl rfl (fun b82=>?_))
  refine Zt (Yb 4 0 Tryz.underlying24 Y7 rfl (by decide) rfl rfl rfl rfl rfl (by simp [Value.oneCell']) (by omega) (by omega) (fun _=>(by rfl)) (fun r83 c83=>?_))
  refine gr rfl (Zd rfl (Yv _))<|Zt (Yc 2 WG rfl rfl rfl rfl rfl (by rfl) (by rfl) ?_)
  refine ZM<|ZI<|Ze<|Za<|gr rfl (by exact ZL (b:=1) rfl rfl (by omega)) ?_
  refine gm rfl rfl<|ZM<|Ze ?_
  have ht:=Zcu (k:=k) (f:=XQ (Ye s x)) hx (by simp [XQ,hsc])
  have hf:=Zf5 (k:=k) (f:=Ye s x) hx (by exact hsc)
  rw [show ((cs.take k).filter (XQ (Ye s x))).length+1=((cs.take (k+1)).filter (XQ (Ye s x))).length by rw [ht,List.length_append]; rfl,show ((cs.take k).filter (XQ (Ye s x))).map natV++[natV i]=((cs.take (k+1)).filter (XQ (Ye s x))).map natV by rw [ht,List.map_append]; rfl,← hf]
  exact ZR ((k+1,(r3,d3),(r83,c83))) ⟨by simp only; omega,by simp only; omega⟩ ⟨rfl,rfl,rfl,rfl,rfl,rfl,rfl,trivial⟩ ⟨[1,2,3,4,5,6,7,8],by decide,rfl⟩
 refine gA<|Zb<|Zl rfl<|Z1<|Zs<|Zs<|ZE<|Ze<|Zb ?_
 rw [Zcm (k:=k) (Ye s x) (by omega),Zcm (k:=k) (XQ (Ye s x)) (by omega)]
 refine ZO [0,1,2,3,4,5,6,7] false 3 rfl<|Zc 0 rfl rfl ⟨[0,1,2,3,4,5,6,7],by decide,rfl⟩ (Zf (Zr Tryz.underlying26 rfl Z5 rfl (by exact ZH 0 (off:=0) (k:=2) rfl rfl) rfl)) ?_
 refine Zc 1 rfl rfl ⟨[0,1,2,3,4,5,6,7],by decide,rfl⟩ (Zf (Zr Tryz.underlying26 rfl Z5 rfl (by exact ZH 1 (off:=0) (k:=2) rfl rfl) rfl)) ?_
 refine ZK 2 rfl (.inr ⟨[0,1,2,3,4,5,6,7],by decide,rfl⟩) (Zz 0 Z5 rfl rfl rfl rfl rfl rfl (by rfl) ?_)
 refine ZK 3 rfl (.inr ⟨[0,1,2,3,4,5,6,7],by decide,rfl⟩) (Zz 1 Z5 rfl rfl rfl rfl rfl rfl (by rfl) ?_)
 refine ZP (.inl (by kernel_rfl)) ?_
 refine Ze<|Zu<|YF (.inl rfl) Tryz.results53 (YC Tryz.underlying26 rfl Z5 rfl (by rfl) (ZH 0 (off:=0) (k:=2) rfl rfl)) (YC Tryz.underlying26 rfl Z5 rfl (by rfl) (ZH 1 (off:=0) (k:=2) rfl rfl)) [4,2,5,3] (by decide) ?_
 exact ⟨r1,d1,r3,d3,r2,d2,r4,d4,rfl,rfl⟩
namespace Ip
theorem Vq {dm:List Deferred} {P:Program} {n:Nat} {e:Env} {w0:World} {S:List Nat} {l:List HL} {dst:Option Tmp} {ty:TypeId} {pos:String} {aft:Array Edge} {gd:Option (Nat × Bool)} {x:Operand} {t:TypeId} {v:Value} (hx:e.ev x=some (.iface t v)):Rd P dm n e w0 S l ⟨dst,.nilCheck x,ty,pos,aft,gd⟩ (.iface t v) :=
  fun a w hs ho=>by simp [execOp,hs.ev hx]
theorem q_keys (q:SS) (V:Ym) (n:Nat) (hq:q.Ok V n) (S:List Nat) (w0:World) (hown:Own w0 S w0 q.hl):Sp Tryz.prog 181 [.pointer (some ⟨q.bs,0,none⟩)] w0 S (fun v L=>∃ (r:Option Nat) (k c:Nat) (zs:List Value),v=.tuple #[.slice (rowA r) k c,.int .i64 0]∧L=.row 3 1 r k c zs::q.hl):=by
 refine (Sp.frame (l1:=q.blk :: .obj q.bm (X0 HV q.m q.nb)::q.fl) (l2:=q.T) hown (fun ho=>Keys_ok q.f q.bs q.bf q.rb q.cb q.rp q.cp q.id q.bm q.num q.fb q.m q.nb q.T V hq.st _ w0 ho)).monoS ?_
 rintro v L ⟨L1,⟨r,c,rfl,rfl⟩,rfl⟩
 exact ⟨_,ZS (A:=[_,_,_,_,_,_]) (B:=[_,_,_,_,_,_]) (T:=q.T) [5,0,1,2,3,4] 6 (by decide) (by decide) rfl rfl,r,_,c,_,rfl,rfl⟩
theorem q_get (q:SS) (V:Ym) (n:Nat) (hq:q.Ok V n) (S:List Nat) (w0:World) (hown:Own w0 S w0 q.hl) (key:Int):Sp Tryz.prog 180 [.pointer (some ⟨q.bs,0,none⟩),.int .i64 key] w0 S (fun v L=>∃ (r:Option Nat) (c:Nat),v=.tuple #[.slice (rowA r) (W7 key V).1.length c,.int .i64 (W7 key V).2]∧L=.row 5 1 r (W7 key V).1.length c ((W7 key V).1.map u8V)::q.hl):=GetM_ok q.f q.bs q.bf q.rb q.cb q.rp q.cp q.id q.bm q.num q.fb q.m q.nb q.T V hq.st S w0 hown key
def bytesV (V:Ym) (x:Pis):List Nat:=match V (keyN x) with | some p=>p.2 | none=>[]
theorem SS.Ok.bytes {q:SS} {V:Ym} {n:Nat} (h:q.Ok V n) {k m:Nat} {bs:List Nat} (hv:V k=some (m,bs)):bs.length≤16∧∀ z∈bs,z<256:=by
 obtain ⟨⟨y,hy,_,_,rfl⟩,_⟩:=h.st.si.fi.topS k m bs hv
 have:=hy.ok h.st.si.fi.lt h.st.si.fi.nb
 exact ⟨this.len,this.val⟩
theorem SS.Ok.bytesV {q:SS} {V:Ym} {n:Nat} (h:q.Ok V n) (x:Pis):(bytesV V x).length≤16∧∀ z∈bytesV V x,z<256:=by
 unfold Ip.bytesV
 cases hv:V (keyN x) with
 | none=>exact ⟨by simp,by simp⟩
 | some p=>exact h.bytes (m:=p.1) (bs:=p.2) hv
theorem sget_key {nd:Nat} (hn:nd≤6) {x:Pis} (hx:pnE nd x=0) (V:Ym):W7 (kyP x) V=(bytesV V x,0):=by
 obtain ⟨h1,h2,h3⟩:=Xw hn hx
 unfold W7 Ip.bytesV
 rw [if_neg (by omega),show (kyP x).toNat=keyN x from rfl]
 cases V (keyN x) <;> rfl
theorem Zlr {V:Ym} {x:Pis}:XJ V x=if (bytesV V x).length=14 then some (unpS (bytesV V x) 1 80,unpS (bytesV V x) 11 24) else none:=by
 unfold XJ Ip.bytesV
 cases V (keyN x) with
 | none=>rfl
 | some p=>rfl
def kD (V:Ym) (x:Pis):Rg:=(XJ V x).getD ([],[])
theorem Zj5 {n:Nat} {f:Nat→Bool} {kept now:List Nat} (hk:kept.Pairwise (· < ·)) (hw:now.Pairwise (· < ·)) (hkn:∀ i∈kept,i<n) (hwn:∀ i∈now,i<n):srt (now.filter (XQ f)++kept.filter f)=VX n f kept now :=
  press_is hkn hwn (hk.imp fun h=>Nat.ne_of_lt h) (hw.imp fun h=>Nat.ne_of_lt h) (Zb2 _) (Zc3 _)
end Ip
open Ip
theorem Zr8 (f:Fl) (hf:f.Ok) (bs bf:Nat) (rb:Option Nat) (cb:Nat) (rp:Option Nat) (cp:Nat) (id bm num:Nat) (free:Int) (w0:World) (hs:Cells w0 ⟨bs,0,none⟩ [.bool true,.pointer (some ⟨bf,0,none⟩),natV id,.map (some bm),.int .u32 (num:Nat),.int .i64 free]) (hc:Cells w0 ⟨bf,0,none⟩ (f.cells rb cb rp cp)) (hf2:Vn f id≠0):Sp Tryz.prog 181 [.pointer (some ⟨bs,0,none⟩)] w0 [] (RV (.tuple #[.slice none 0 0,.int .i64 (Vn f id)])):=by
 refine ZC Tryz.func181 rfl Tryz.ntmps181 rfl (Own.refl _) ?_
 simp only [ZV]
 refine Zb<|Za<|gas rfl rfl<|gas rfl rfl<|gA<|Zb<|Zb<|Za<|gm rfl rfl<|Zt (ZJ rfl (vf:=[]) (vc:=[]) rfl rfl Tryz.call184 (fun w1 ho=>Zgm f hf bs bf rb cb rp cp id bm num free w1 (hs.at ho) (hc.at ho)) ?_)
 rintro _ _ ⟨rfl,rfl⟩
 refine gas rfl rfl<|gA<|Zb<|Za<|gm rfl rfl<|gr rfl (Z4 rfl rfl) (Zw (fun h8=>?_) (fun h8=>?_))
 ·refine gA<|Zk rfl<|Zb<|Za<|gm rfl rfl<|gas rfl rfl<|gas rfl rfl<|gA<|Zu<|Zh<|Y5 (.inl rfl) Tryz.results181 rfl rfl [] (by decide) ?_
  exact ⟨rfl,rfl⟩
 exact absurd hf2 h8
theorem up_okP (q:SS) (V:Ym) (n:Nat) (hq:q.Ok V n) (S:List Nat) (w0:World) (hown:Own w0 S w0 q.hl) (s:Org) (bp:Nat) (hP:PsIn s bp q.bs w0 S):Sp Tryz.prog 46 [.pointer (some ⟨bp,0,none⟩)] w0 S (fun v L=>v=.int .i64 0∧L=q.hl):=by
 have hp:=hP.p
 refine ZC Tryz.func46 rfl Tryz.ntmps46 rfl hown ?_
 simp only [ZV]
 refine Zb<|Za<|gas rfl rfl<|gA<|Zb<|Za<|gm rfl rfl<|gnc rfl rfl<|gr rfl (Zd rfl (VF _))<|gr rfl (Zi Tryz.underlying50 rfl rfl (Yj hp hP.o (j:=1) rfl))<|Zt<|Wk (rv:=(.pointer (some ⟨q.bs,0,none⟩))) (F:=181) rfl rfl (Zpi _) Tryz.call181<|(Yn [] q.hl rfl rfl (vf:=[]) (vc:=[]) rfl rfl Tryz.call181 rfl (fun w how hc=>q_keys q V n hq _ w hc) ?_)
 rintro _ _ ⟨r,k,c,zs,rfl,rfl⟩
 refine gm rfl rfl<|gr rfl (ZD rfl rfl)<|gr rfl (ZD rfl rfl)<|gas rfl rfl<|gas rfl rfl<|gA<|Zb<|Za<|gm rfl rfl<|gas rfl rfl<|gA<|Zu<|ZW (.inl rfl) Tryz.results46 rfl (ZS (A:=[]) (B:=[_]) (T:=q.hl) [] 1 (by decide) (by decide) rfl rfl) ?_
 exact ⟨rfl,rfl⟩
theorem up_stop (q:SS) (hq:q.Stop) (S:List Nat) (w0:World) (hown:Own w0 S w0 q.hl) (s:Org) (bp:Nat) (hP:PsIn s bp q.bs w0 S):Sp Tryz.prog 46 [.pointer (some ⟨bp,0,none⟩)] w0 S (fun v L=>v=.int .i64 q.err∧L=q.hl):=by
 have hp:=hP.p
 refine ZC Tryz.func46 rfl Tryz.ntmps46 rfl hown ?_
 simp only [ZV]
 refine Zb<|Za<|gas rfl rfl<|gA<|Zb<|Za<|gm rfl rfl<|gnc rfl rfl<|gr rfl (Zd rfl (VF _))<|gr rfl (Zi Tryz.underlying50 rfl rfl (Yj hp hP.o (j:=1) rfl))<|Zt<|Wk (rv:=(.pointer (some ⟨q.bs,0,none⟩))) (F:=181) rfl rfl (Zpi _) Tryz.call181<|(ZJ rfl (vf:=[]) (vc:=[]) rfl rfl Tryz.call181 (fun w how=>Zr8 q.f hq.ok q.bs q.bf q.rb q.cb q.rp q.cp q.id q.bm q.num _ w (how.blkCells 0 rfl) (how.blkCells 2 rfl) hq.no) ?_)
 rintro _ _ ⟨rfl,rfl⟩
 refine gm rfl rfl<|gr rfl (ZD rfl rfl)<|gr rfl (ZD rfl rfl)<|gas rfl rfl<|gas rfl rfl<|gA<|Zb<|Za<|gm rfl rfl<|gas rfl rfl<|gA<|Zu<|ZW (.inl rfl) Tryz.results46 rfl (ZS (A:=[]) (B:=[]) (T:=q.hl) [] 0 (by decide) (by decide) rfl rfl) ?_
 exact ⟨rfl,rfl⟩
theorem Zfd (q:SS) (hq:(∃ V n,q.Ok V n)∨q.Stop) (S:List Nat) (w0:World) (hown:Own w0 S w0 q.hl) (s:Org) (bp:Nat) (hP:PsIn s bp q.bs w0 S):Sp Tryz.prog 46 [.pointer (some ⟨bp,0,none⟩)] w0 S (fun v L=>v=.int .i64 q.err∧L=q.hl):=by
 rcases hq with ⟨V,n,h⟩ | h
 ·have e:=up_okP q V n h S w0 hown s bp hP
  rw [h.zero]; exact e
 ·exact up_stop q h S w0 hown s bp hP
theorem Zb7 (q:SS) (V:Ym) (n:Nat) (hq:q.Ok V n) (S:List Nat) (w0:World) (hown:Own w0 S w0 q.hl) (s:Org) (bp:Nat) (hP:PsIn s bp q.bs w0 S) (x:Pis) (hx:pnE s.ds.length x=0):Sp Tryz.prog 47 [.pointer (some ⟨bp,0,none⟩),Pis.val x] w0 S (fun v L=>∃ (r:Option Nat) (c:Nat) (r2:Option Nat) (c2:Nat),v=.tuple #[.agg #[.slice (rowA r) (kD V x).1.length c,.slice (rowA r2) (kD V x).2.length c2],.bool (XJ V x).isSome]∧L=.row 3 1 r (kD V x).1.length c ((kD V x).1.map natV) :: .row 3 1 r2 (kD V x).2.length c2 ((kD V x).2.map natV)::q.hl):=by
 have hp:=hP.p
 have hsg:=sget_key hP.nd hx V
 refine ZC Tryz.func47 rfl Tryz.ntmps47 rfl hown ?_
 simp only [ZV]
 refine Zb<|Za<|Zt (Z6 rfl rfl rfl (fun b3=>?_))
 refine Zt (ZU Z5 rfl rfl (fun b4=>?_))
 refine gas rfl rfl<|gA<|Zb<|Zdo [_,_] q.hl [0,1] true 13 rfl rfl<|Zc 0 rfl rfl (YL 0 rfl) (Zf (Zo rfl)) ?_
 refine Zc 1 rfl rfl (YL 0 rfl) (Zf (ZN rfl)) ?_
 refine Zc 2 rfl rfl (YL 0 rfl) (Zf (Zd rfl (VF _))) ?_
 refine Zc 3 rfl rfl (YL 0 rfl) (Zf (Zi Tryz.underlying50 rfl rfl (Yj hp hP.o (j:=1) rfl))) ?_
 refine Zc 4 rfl rfl (YL 0 rfl) (Zf (Zr Tryz.underlying23 rfl Yg rfl (by exact ZH 1 (off:=0) (k:=3) rfl rfl) rfl)) ?_
 refine Zc 5 rfl rfl (YL 0 rfl) (YE (vf:=[]) (vc:=[]) rfl rfl Tryz.call54 (fun w1 ho=>Zif hP.nd x hx w1) (by rintro _ _ ⟨h,_⟩; exact h)) ?_
 refine Zc 6 rfl rfl (YL 0 rfl) (Zf (Vq rfl)) ?_
 refine Zc 7 rfl rfl (YL 0 rfl) (Zf (Zo rfl)) ?_
 refine ZK 8 rfl (.inr (YL 0 rfl)) (Wk (rv:=(.pointer (some ⟨q.bs,0,none⟩))) (F:=180) rfl rfl (m_get _) Tryz.call180 ?_)
 refine (Yn [_,_] q.hl rfl rfl (vf:=[]) (vc:=[]) rfl rfl Tryz.call180 rfl (fun w how hc=>q_get q V n hq _ w hc _) ?_)
 rintro _ _ ⟨rg,cg,rfl,rfl⟩
 rw [hsg]
 dsimp only
 refine Zc 9 rfl rfl (ZS (A:=[_,_]) (B:=[_,_,_]) (T:=q.hl) [0,1] 3 (by decide) (by decide) rfl rfl) (Zf (Zo rfl)) ?_
 refine Zc 10 rfl rfl (ZS (A:=[_,_]) (B:=[_,_,_]) (T:=q.hl) [0,1] 3 (by decide) (by decide) rfl rfl) (Zf (ZD rfl rfl)) ?_
 refine Zc 11 rfl rfl (ZS (A:=[_,_]) (B:=[_,_,_]) (T:=q.hl) [0,1] 3 (by decide) (by decide) rfl rfl) (Zf (ZD rfl rfl)) ?_
 refine Zc 12 rfl rfl (ZS (A:=[_,_]) (B:=[_,_,_]) (T:=q.hl) [0,1] 3 (by decide) (by decide) rfl rfl) (Zf (ZY rfl)) ?_
 refine Zc 13 rfl rfl (ZS (A:=[_,_]) (B:=[_,_,_]) (T:=q.hl) [0,1] 3 (by decide) (by decide) rfl rfl) (Zf (ZY rfl)) ?_
 refine ZP (.inr (ZS (A:=[_,_]) (B:=[_,_,_]) (T:=q.hl) [0,1] 3 (by decide) (by decide) rfl rfl)) ?_
 refine Ze<|Zb<|Zb<|Za<|gm rfl rfl<|gr rfl (Z4 rfl rfl) (Zw (fun h21=>?_) (fun h21=>?_))
 ·exact absurd rfl h21
 refine gm rfl rfl<|Zg rfl rfl<|Zm rfl (Zo rfl)<|Zg rfl rfl<|Zm rfl (ZA Tryz.underlying65 rfl)<|Zg rfl rfl (Zm rfl (Z4 rfl rfl) (Zw (fun h25=>?_) (fun h25=>?_)))
 ·replace h25:¬ (bytesV V x).length=14:=by omega
  refine gr rfl (Zn rfl rfl)<|gA<|Zk rfl<|Zb<|YH 3 1<|YH 3 1<|Za<|gr rfl (ZT rfl (fun _=>Zey)) ?_
  refine Zt (Zz 2 Z5 rfl rfl rfl rfl rfl rfl (by rfl) ?_)
  refine gas rfl rfl<|gA<|Zu<|Zh<|WA (.inl rfl) Tryz.results47 (YC Tryz.underlying26 rfl Z5 rfl (by rfl) (ZH 2 (off:=0) (k:=2) rfl rfl)) (YU rfl) (ZS (A:=[_,_]) (B:=[_,_,_,_,_]) (T:=q.hl) [0,1] 5 (by decide) (by decide) rfl rfl) ?_
  have hkv:XJ V x=none:=by rw [Zlr,if_neg h25]
  exact ⟨none,0,none,0,by unfold kD; rw [hkv]; rfl,by unfold kD; rw [hkv]; rfl⟩
 have hl14:(bytesV V x).length=14:=by omega
 refine gr rfl (Zn rfl rfl)<|gA<|Zl rfl<|Zv<|Ze<|Zb ?_
 rw [hl14]
 refine Za<|gm rfl rfl<|Zt (ZJ rfl (vf:=[]) (vc:=[]) rfl rfl Tryz.call91 (fun w1 ho=>Zpk (bytesV V x) (hq.bytesV x).2 hl14 (rowA rg) cg w1 (ho.rowSl 2 rfl)) ?_)
 rintro _ _ ⟨rS,cS,rC,cC,rfl,rfl⟩
 refine Zt (Zz 2 Z5 rfl rfl rfl rfl rfl rfl (by rfl) ?_)
 refine gas rfl rfl<|gA<|Zu<|WA (.inl rfl) Tryz.results47 (YC Tryz.underlying26 rfl Z5 rfl (by rfl) (ZH 2 (off:=0) (k:=2) rfl rfl)) (YU rfl) (ZS (A:=[_,_]) (B:=[_,_,_,_,_]) (T:=q.hl) [0,1] 5 (by decide) (by decide) rfl rfl) ?_
 have hkv:XJ V x=some (unpS (bytesV V x) 1 80,unpS (bytesV V x) 11 24):=by rw [Zlr,if_pos hl14]
 exact ⟨rS,cS,rC,cC,by unfold kD; rw [hkv]; rfl,by unfold kD; rw [hkv]; rfl⟩
namespace Ip
theorem asc_len : ∀ {l:List Nat} {n:Nat},l.Pairwise (· < ·)→(∀ i∈l,i<n)→l.length≤n:=fun {l n} h hn=>by
 have e:=Zc5 (f:=fun i=>decide (i∈l)) h hn (fun i _=>by simp)
 rw [← e]
 exact Nat.le_trans (List.length_filter_le _ _) (by simp)
theorem Zqv (l:List Nat):∀ u∈l.map natV,u.oneCell'=true:=fun u hu=>by
 obtain ⟨z,_,rfl⟩:=List.mem_map.1 hu; rfl
theorem Vr {ns nc:Nat} {r:Rg} (h:RgOk ns nc r) (hn:ns≤80):r.1.length≤1000:=by have:=asc_len h.s h.sn; omega
theorem Vs {ns nc:Nat} {r:Rg} (h:RgOk ns nc r) (hn:nc≤24):r.2.length≤1000:=by have:=asc_len h.c h.cn; omega
end Ip
open Ip
theorem Zig (s:Org) (bp bs:Nat) (w0:World) (hP:PsIn s bp bs w0 []) (x:Pis) (k w:Rg) (hk:RgOk s.ss.length s.cs.length k) (hw:RgOk s.ss.length s.cs.length w) (a1 a2 a3 a4:Option Addr) (c1 c2 c3 c4:Nat) (h1:OldSl w0 [] a1 k.1.length 1 (k.1.map natV)) (h2:OldSl w0 [] a2 k.2.length 1 (k.2.map natV)) (h3:OldSl w0 [] a3 w.1.length 1 (w.1.map natV)) (h4:OldSl w0 [] a4 w.2.length 1 (w.2.map natV)):Sp Tryz.prog 48 [.pointer (some ⟨bp,0,none⟩),Pis.val x,.agg #[.slice a1 k.1.length c1,.slice a2 k.2.length c2],.agg #[.slice a3 w.1.length c3,.slice a4 w.2.length c4]] w0 [] (fun v L=>∃ (r:Option Nat) (c:Nat) (r2:Option Nat) (c2:Nat),v=.agg #[.slice (rowA r) (Xf s x k w).1.length c,.slice (rowA r2) (Xf s x k w).2.length c2]∧L=[.row 3 1 r (Xf s x k w).1.length c ((Xf s x k w).1.map natV),.row 3 1 r2 (Xf s x k w).2.length c2 ((Xf s x k w).2.map natV)]):=by
 have hp:=hP.p
 have hp2:=hP.sp
 have hnd:=hP.nd
 have hns:=hP.ns
 have hnc:=hP.nc
 have hk1:k.1.length≤1000:=Vr hk hns
 have hk2:k.2.length≤1000:=Vs hk hnc
 have hw1:w.1.length≤1000:=Vr hw hns
 have hw2:w.2.length≤1000:=Vs hw hnc
 have hf0:=List.length_filter_le (Yd s x) k.1
 have hf1:=List.length_filter_le (Ye s x) k.2
 have hf2:=List.length_filter_le (XQ (Yd s x)) w.1
 have hf3:=List.length_filter_le (XQ (Ye s x)) w.2
 refine ZC Tryz.func48 rfl Tryz.ntmps48 rfl (Own.refl _) ?_
 simp only [ZV]
 refine Zb<|Za<|Zt (Z6 rfl rfl rfl (fun b5=>?_))
 refine Zt (Z6 rfl rfl rfl (fun b6=>?_))
 refine Zt (Z6 rfl rfl rfl (fun b7=>?_))
 refine Zt (ZU Z5 rfl rfl (fun b8=>?_))
 refine gA<|Zb<|Za<|gm rfl rfl<|gr rfl (Zr Tryz.underlying23 rfl Yg rfl (by exact ZH 3 (off:=0) (k:=3) rfl rfl) rfl) ?_
 refine gr rfl (Zr Tryz.underlying26 rfl Z5 rfl (by exact ZH 2 (off:=0) (k:=2) rfl rfl) rfl) ?_
 refine Zt (ZJ rfl (vf:=[]) (vc:=[]) rfl rfl Tryz.call53 (fun w1 ho=>Zfc s bp bs w1 (hP.at ho) x k.1 k.2 a1 a2 c1 c2 hk.sn hk.cn hk1 hk2 (h1.at ho) (h2.at ho)) ?_)
 rintro _ _ ⟨p1,pd1,p3,pd3,p2,pd2,p4,pd4,rfl,rfl⟩
 refine gm rfl rfl<|gr rfl (ZD rfl rfl)<|gr rfl (ZD rfl rfl)<|Zt (ZU Z5 rfl rfl (fun b9=>?_))
 refine Zt (ZU Z5 rfl rfl (fun b10=>?_))
 refine Zt (Zz 1 Z5 rfl rfl rfl rfl rfl rfl (by rfl) ?_)
 refine Zt (Zz 0 Z5 rfl rfl rfl rfl rfl rfl (by rfl) ?_)
 refine gA<|Zb<|Za<|gm rfl rfl<|gr rfl (Zr Tryz.underlying23 rfl Yg rfl (by exact ZH 9 (off:=0) (k:=3) rfl rfl) rfl) ?_
 refine gr rfl (Zr Tryz.underlying26 rfl Z5 rfl (by exact ZH 7 (off:=0) (k:=2) rfl rfl) rfl) ?_
 refine Zt (ZJ rfl (vf:=[]) (vc:=[]) rfl rfl Tryz.call53 (fun w1 ho=>Zfc s bp bs w1 (hP.at ho) x w.1 w.2 a3 a4 c3 c4 hw.sn hw.cn hw1 hw2 (h3.at ho) (h4.at ho)) ?_)
 rintro _ _ ⟨q1,qd1,q3,qd3,q2,qd2,q4,qd4,rfl,rfl⟩
 refine gm rfl rfl<|gr rfl (ZD rfl rfl)<|gr rfl (ZD rfl rfl)<|Zt (ZU Z5 rfl rfl (fun b11=>?_))
 refine Zt (ZU Z5 rfl rfl (fun b12=>?_))
 refine Zt (Zz 1 Z5 rfl rfl rfl rfl rfl rfl (by rfl) ?_)
 refine Zt (Zz 0 Z5 rfl rfl rfl rfl rfl rfl (by rfl) ?_)
 refine gA<|Zb<|Za<|gr rfl (Zd rfl (Yu _))<|gr rfl (Zi Tryz.underlying24 rfl rfl (by exact Zp 0 rfl rfl)) ?_
 refine gr rfl (Zd rfl (Yu _))<|gr rfl (Zi Tryz.underlying24 rfl rfl (by exact Zp 7 rfl rfl)) ?_
 refine Zt (Zfq 4 (fun w ho=>ho.rowSl 8 rfl) Tryz.underlying24 Y7 rfl (by decide) rfl rfl rfl rfl (Zqv _) (by omega) (by omega) (fun _=>(by rfl)) (fun r31 c31=>?_))
 refine gr rfl (Zd rfl (Yu _))<|Zt (Yc 0 WG rfl rfl rfl rfl rfl (by rfl) (by rfl) ?_)
 refine gA<|Zb<|Za<|gr rfl (Zd rfl (Yv _))<|gr rfl (Zi Tryz.underlying24 rfl rfl (by exact Zp 0 rfl rfl)) ?_
 refine gr rfl (Zd rfl (Yv _))<|gr rfl (Zi Tryz.underlying24 rfl rfl (by exact Zp 7 rfl rfl)) ?_
 refine Zt (Zfq 5 (fun w ho=>ho.rowSl 9 rfl) Tryz.underlying24 Y7 rfl (by decide) rfl rfl rfl rfl (Zqv _) (by omega) (by omega) (fun _=>(by rfl)) (fun r37 c37=>?_))
 refine gr rfl (Zd rfl (Yv _))<|Zt (Yc 0 WG rfl rfl rfl rfl rfl (by rfl) (by rfl) ?_)
 refine gA<|Zb ?_
 rw [← List.length_append,← List.map_append,← List.length_append,← List.map_append]
 refine Za<|gr rfl (Zd rfl (Yu _))<|gr rfl (Zi Tryz.underlying24 rfl rfl (by exact Zp 0 rfl rfl)) ?_
 refine Zt (Yi [4] [0,1,2,3,5,6,7,8,9,10,11,12,13,14,15] rfl (vf:=[]) (vc:=[]) rfl rfl Tryz.call92 (by decide) rfl (fun w9 how hc=>Zlj _ _ _ _ w9 hc (by rw [List.length_append]; omega)) ?_)
 rintro _ _ rfl
 refine gA<|Zb<|Za<|gr rfl (Zd rfl (Yv _))<|gr rfl (Zi Tryz.underlying24 rfl rfl (by exact Zp 1 rfl rfl)) ?_
 refine Zt (Yi [5] [0,1,2,3,4,6,7,8,9,10,11,12,13,14,15] rfl (vf:=[]) (vc:=[]) rfl rfl Tryz.call92 (by decide) rfl (fun w9 how hc=>Zlj _ _ _ _ w9 hc (by rw [List.length_append]; omega)) ?_)
 rintro _ _ rfl
 have e1:srt ((w.1.filter (XQ (Yd s x)))++(k.1.filter (Yd s x)))=(Xf s x k w).1:=Zj5 hk.s hw.s hk.sn hw.sn
 have e2:srt ((w.2.filter (XQ (Ye s x)))++(k.2.filter (Ye s x)))=(Xf s x k w).2:=Zj5 hk.c hw.c hk.cn hw.cn
 have e3:=Zli ((w.1.filter (XQ (Yd s x)))++(k.1.filter (Yd s x)))
 have e4:=Zli ((w.2.filter (XQ (Ye s x)))++(k.2.filter (Ye s x)))
 rw [e1] at e3
 rw [e2] at e4
 rw [e1,e2,← e3,← e4]
 refine gA<|Zb<|Za<|gr rfl (Zr Tryz.underlying26 rfl Z5 rfl (by exact ZH 2 (off:=0) (k:=2) rfl rfl) rfl) ?_
 refine Zt (Zz 12 Z5 rfl rfl rfl rfl rfl rfl (by rfl) ?_)
 refine gA<|Zu<|J2 (.inl rfl) Tryz.results48 (YC Tryz.underlying26 rfl Z5 rfl (by rfl) (ZH 12 (off:=0) (k:=2) rfl rfl)) [1,0] (by decide) ?_
 exact ⟨r31,c31,r37,c37,rfl,rfl⟩
namespace Ip
structure Cl where
  rd:Option Nat
  cd:Nat
  rt:Option Nat
  ct:Nat
  rc:Option Nat
  cc:Nat
abbrev clS (s:Org) (c:Cl):Org:={ s with da:=rowA c.rd,dc:=c.cd,sa:=rowA c.rt,sc:=c.ct,ca:=rowA c.rc,cc:=c.cc }
abbrev clV (s:Org) (c:Cl):Value:=.agg #[.slice (rowA c.rd) s.ds.length c.cd,.slice none 0 0,.slice (rowA c.rt) s.ss.length c.ct,.slice (rowA c.rc) s.cs.length c.cc]
abbrev clH (s:Org) (c:Cl):List HL:=[.row 109 3 c.rd s.ds.length c.cd (s.ds.flatMap Dv.cells),.row 99 5 c.rt s.ss.length c.ct (s.ss.flatMap St.cells),.row 113 6 c.rc s.cs.length c.cc (s.cs.flatMap Cp.cells)]
abbrev psB (s:Org) (bp bs:Nat) (c:Cl):HL:=.blk bp [.bool true,.iface 33 (.pointer (some ⟨bs,0,none⟩)),.slice (rowA c.rd) s.ds.length c.cd,.slice none 0 0,.slice (rowA c.rt) s.ss.length c.ct,.slice (rowA c.rc) s.cs.length c.cc] 52
abbrev psH (s:Org) (bp bs:Nat) (c:Cl):List HL:=psB s bp bs c::clH s c
theorem Zpl {s:Org} {bp bs:Nat} {c:Cl} {w0 w:World} {S:List Nat} {A T:List HL} (ho:Own w0 S w (A++T)) (i j k:Nat) (hi:A[i]? = some (psB s bp bs c)) (hj:A[j]? = some (.row 99 5 c.rt s.ss.length c.ct (s.ss.flatMap St.cells))) (hk:A[k]? = some (.row 113 6 c.rc s.cs.length c.cc (s.cs.flatMap Cp.cells))) (hd:s.ds.length≤6) (hs:s.ss.length≤80) (hc:s.cs.length≤24):PsIn (clS s c) bp bs w (T.filterMap HL.block):=by
 have hlt:i<A.length:=(List.getElem?_eq_some_iff.1 hi).1
 exact ⟨ho.blkCells i (by rw [List.getElem?_append_left hlt]; exact hi),ho.blkOutT i hi,ho.rowSlT j hj,ho.rowSlT k hk,hd,hs,hc⟩
structure SS.Like (q q2:SS):Prop where
  bs:q2.bs=q.bs
  bf:q2.bf=q.bf
  rb:q2.rb=q.rb
  cb:q2.cb=q.cb
  rp:q2.rp=q.rp
  cp:q2.cp=q.cp
  len:q2.f.b.length=q.f.b.length
  st:q2.f.st=q.f.st
  no:q.f.left = -1→q2.f.left = -1
theorem SS.Like.refl (q:SS):q.Like q:=⟨rfl,rfl,rfl,rfl,rfl,rfl,rfl,rfl,fun h=>h⟩
theorem SS.Like.trans {q q2 q3:SS} (h:q.Like q2) (h2:q2.Like q3):q.Like q3:=⟨h2.bs.trans h.bs,h2.bf.trans h.bf,h2.rb.trans h.rb,h2.cb.trans h.cb,h2.rp.trans h.rp,h2.cp.trans h.cp,h2.len.trans h.len,h2.st.trans h.st,fun e=>h2.no (h.no e)⟩
structure SS.Torn (q2:SS) (n:Nat) (V V2:Ym):Prop where
  ok:q2.f.Ok
  dn:q2.f.down=true
  fi:∃ V' N,N≤n∧(V'=V∨V'=V2)∧FI q2.f.b N V'
  sp:∃ e,e<q2.f.b.length / 256∧Jt q2.f.b e
  pr:q2.f.pr≤100000 * n
  er:q2.f.er≤n
def Zj6 (V:Ym) (k cap len:Nat):Prop:=V k=none∧cap≤len
def PutR (q:SS) (V:Ym) (n key:Nat) (vs:List Nat):Value→List HL→Prop:=fun v L =>
  (Zj6 V key (10 * (q.f.b.length / 256 - 2)) q.m.length∧v=.int .i64 5∧L=q.hl) ∨
  (¬ Zj6 V key (10 * (q.f.b.length / 256 - 2)) q.m.length∧∃ q2:SS,v=.int .i64 0∧q2.Ok (Zc4 V key (q.num+1) vs) (n+1)∧q.Like q2∧L=q2.hl) ∨
  (¬ Zj6 V key (10 * (q.f.b.length / 256 - 2)) q.m.length∧∃ q2:SS,v=.int .i64 9∧q.f.left≠-1∧q2.Torn (n+1) V (Zc4 V key (q.num+1) vs)∧q.Like q2∧L=q2.hl)
theorem SS.Ok.mlen {q:SS} {V:Ym} {n:Nat} (h:q.Ok V n):q.m.length≤620:=by
 have h1:=h.st.cap
 have h2:=h.st.ok.hi
 omega
theorem Znu (q:SS) (V:Ym) (n:Nat) (hq:q.Ok V n) (S:List Nat) (w0:World) (hown:Own w0 S w0 q.hl) (hn:n<1000000) (key:Nat) (hkey:key≤999) (vs:List Nat) (hvs:∀ z∈vs,z<256) (hv16:vs.length≤16) (a:Option Addr) (ca:Nat) (hsl:OldSl w0 S a vs.length 1 (vs.map u8V)):Sp Tryz.prog 182 [.pointer (some ⟨q.bs,0,none⟩),natV key,.slice a vs.length ca] w0 S (PutR q V n key vs):=by
 have h1:=hq.pr
 have h2:=hq.er
 have h3:=hq.num
 have h4:=hq.mlen
 refine (PutG_ok q.f q.bs q.bf q.rb q.cb q.rp q.cp q.id q.bm q.num q.fb q.m q.nb q.T V hq.st S w0 hown (by omega) (by omega) (by omega) key hkey vs hvs hv16 a ca hsl).mono ?_
 rintro v L (⟨hf,rfl,rfl⟩ | ⟨hf,f2,m2,nb2,fb2,T2,rfl,hF,hst,hT,rfl⟩ | ⟨hf,f2,m2,nb2,fb2,num2,id2,T2,rfl,hF,hT2,hT,rfl⟩)
 ·exact .inl ⟨hf,rfl,rfl⟩
 ·have p1:=hF.pr
  have p2:=hF.er
  refine .inr (.inl ⟨hf,{ q with f:=f2,num:=q.num+1,fb:=fb2,m:=m2,nb:=nb2,T:=T2 },rfl,⟨hst,?_,?_,?_⟩,⟨rfl,rfl,rfl,rfl,rfl,rfl,hF.len,hF.st,hF.no⟩,rfl⟩)
  ·show f2.pr≤100000 * (n+1); omega
  ·show f2.er≤n+1; omega
  ·show q.num+1≤n+1; omega
 ·have p1:=hF.pr
  have p2:=hF.er
  refine .inr (.inr ⟨hf,{ q with f:=f2,id:=id2,num:=num2,fb:=fb2,m:=m2,nb:=nb2,T:=T2 },rfl,hT2.no,⟨hF.ok,hT2.dn,?_,?_,?_,?_⟩,⟨rfl,rfl,rfl,rfl,rfl,rfl,hF.len,hF.st,hF.no⟩,rfl⟩)
  ·obtain ⟨V',h5,h6⟩:=hT2.fi
   exact ⟨V',q.num+1,by omega,h5,h6⟩
  ·obtain ⟨e,h5,h6⟩:=hT2.sp
   exact ⟨e,by show e<f2.b.length / 256; rw [hF.len]; exact h5,h6⟩
  ·show f2.pr≤100000 * (n+1); omega
  ·show f2.er≤n+1; omega
end Ip
open Ip
theorem eg_40 : Tryz.prog.eqGuardType Tryz.prog.depth 40=false:=by kernel_rfl
theorem one_109 (l:List Dv):∀ u∈l.flatMap Dv.cells,u.oneCell'=true:=fun u hu=>by
 obtain ⟨x,_,h⟩:=List.mem_flatMap.1 hu
 simp only [Dv.cells,List.mem_cons,List.not_mem_nil,or_false] at h
 rcases h with rfl | rfl | rfl <;> rfl
theorem eg_42 : Tryz.prog.eqGuardType Tryz.prog.depth 42=false:=by kernel_rfl
theorem one_99 (l:List St):∀ u∈l.flatMap St.cells,u.oneCell'=true:=fun u hu=>by
 obtain ⟨x,_,h⟩:=List.mem_flatMap.1 hu
 simp only [St.cells,List.mem_cons,List.not_mem_nil,or_false] at h
 rcases h with rfl | rfl | rfl | rfl | rfl <;> rfl
theorem eg_43 : Tryz.prog.eqGuardType Tryz.prog.depth 43=false:=by kernel_rfl
theorem one_113 (l:List Cp):∀ u∈l.flatMap Cp.cells,u.oneCell'=true:=fun u hu=>by
 obtain ⟨x,_,h⟩:=List.mem_flatMap.1 hu
 simp only [Cp.cells,List.mem_cons,List.not_mem_nil,or_false] at h
 rcases h with rfl | rfl | rfl | rfl | rfl | rfl <;> rfl
theorem Zj7 (xs ys:List Nat) (a b:Option Addr) (ca cb:Nat) (hxl:xs.length≤140737488355328) (w0:World) (hx:OldSl w0 [] a xs.length 1 (xs.map natV)) (hy:OldSl w0 [] b ys.length 1 (ys.map natV)):Sp Tryz.prog 52 [.slice a xs.length ca,.slice b ys.length cb] w0 [] (RV (.bool (decide (xs=ys)))):=by
 refine ZC Tryz.func52 rfl Tryz.ntmps52 rfl (Own.refl _) ?_
 simp only [ZV]
 refine Zb<|Za<|gas rfl rfl<|gA<|Zb<|Zb<|Za<|gm rfl rfl<|gr rfl (ZA Tryz.underlying24 rfl)<|gm rfl rfl<|gr rfl (ZA Tryz.underlying24 rfl)<|gr rfl (Z4 rfl rfl) (Zw (fun h10=>?_) (fun h10=>?_))
 ·refine gA<|Zk rfl<|Zb<|Za<|gas rfl rfl<|gA<|Zu<|Zh<|Zy (.inl rfl) Tryz.results52 rfl [] (by decide) ?_
  refine ⟨congrArg Value.bool (Eq.symm ?_),rfl⟩
  exact decide_eq_false (fun e=>by subst e; omega)
 refine gA<|Zl rfl<|Zv<|Ze<|Zb<|Zb<|Za<|gm rfl rfl<|gr rfl (ZA Tryz.underlying24 rfl)<|gm rfl rfl<|gA<|ZB<|ZZ (ι:=Nat) [(0,_),(1,_),(12,_)] [] (fun k=>k≤xs.length∧xs.take k=ys.take k) (fun k Fr0=>((13,natV k)::Fr0)) (fun k Fr0=>Fr0) (fun k=>xs.length - k) 0 (⟨Nat.zero_le _,rfl⟩) ⟨rfl,rfl,rfl,rfl,trivial⟩ ⟨[],by decide,rfl⟩ ?_
 rintro k ⟨hk,htk⟩
 refine Zb<|Za<|gr rfl (ZX rfl rfl) (Zw (fun h14=>?_) (fun h14=>?_))
 ·obtain ⟨u,hu⟩:=get_some (show k<xs.length by omega)
  obtain ⟨v,hv⟩:=get_some (show k<ys.length by omega)
  refine gA<|Zb<|Zk rfl<|Zv<|Ze<|Zb<|ZB<|Zb<|Za<|gm rfl rfl<|gas rfl rfl<|gA<|Zb<|ZO [] true 8 rfl<|Zc 0 rfl rfl ⟨[],by decide,rfl⟩ (Zf (Zo rfl)) ?_
  refine Zc 1 rfl rfl ⟨[],by decide,rfl⟩ (Zf (Zo rfl)) ?_
  refine Zc 2 rfl rfl ⟨[],by decide,rfl⟩ (Zf (Z9 hx Tryz.underlying24 Y7 rfl rfl (by omega) (by omega))) ?_
  refine Zc 3 rfl rfl ⟨[],by decide,rfl⟩ (Zf (Zi Tryz.underlying3 rfl rfl (YX hx (Xr hu)))) ?_
  refine Zc 4 rfl rfl ⟨[],by decide,rfl⟩ (Zf (Zo rfl)) ?_
  refine Zc 5 rfl rfl ⟨[],by decide,rfl⟩ (Zf (Zo rfl)) ?_
  refine Zc 6 rfl rfl ⟨[],by decide,rfl⟩ (Zf (Z9 hy Tryz.underlying24 Y7 rfl rfl (by omega) (by omega))) ?_
  refine Zc 7 rfl rfl ⟨[],by decide,rfl⟩ (Zf (Zi Tryz.underlying3 rfl rfl (YX hy (Xr hv)))) ?_
  refine Zc 8 rfl rfl ⟨[],by decide,rfl⟩ (Zf (Z4 rfl rfl)) (Zw (fun h24=>?_) (fun h24=>?_))
  ·refine ZP (.inr ⟨[],by decide,rfl⟩) ?_
   refine Ze<|Zk rfl<|Zb<|Za<|gas rfl rfl<|gA<|Zu<|Zx<|Zh<|Zh<|Zx<|Zh<|Zy (.inl rfl) Tryz.results52 rfl [] (by decide) ?_
   refine ⟨congrArg Value.bool (Eq.symm ?_),rfl⟩
   exact decide_eq_false (fun e=>by subst e; rw [hu] at hv; cases hv; omega)
  refine ZP (.inr ⟨[],by decide,rfl⟩) ?_
  refine Ze<|Zl rfl<|Zv<|ZI<|Ze<|Za<|gr rfl (by exact ZL (b:=1) rfl rfl (by omega)) ?_
  refine gm rfl rfl<|ZM<|Ze ?_
  exact ZR (k+1) ⟨⟨by omega,by rw [take_at hu,take_at hv,htk,show u=v by omega]⟩,by omega⟩ ⟨rfl,rfl,rfl,rfl,trivial⟩ ⟨[],by decide,rfl⟩
 refine gA<|Zb<|Zl rfl<|Z1<|Zs<|Zs<|ZE<|Ze<|Zb<|Za<|gas rfl rfl<|gA<|Zu<|Zy (.inl rfl) Tryz.results52 rfl [] (by decide) ?_
 refine ⟨congrArg Value.bool (Eq.symm ?_),rfl⟩
 rw [List.take_of_length_le (by omega),List.take_of_length_le (by omega)] at htk
 exact decide_eq_true htk
theorem Zr9 (xs ys:List Nat) (a b:Option Addr) (ca cb:Nat) (hxl:xs.length≤140737488355328) (w0:World) (hx:OldSl w0 [] a xs.length 1 (xs.map u8V)) (hy:OldSl w0 [] b ys.length 1 (ys.map u8V)):Sp Tryz.prog 37 [.slice a xs.length ca,.slice b ys.length cb] w0 [] (RV (.bool (decide (xs=ys)))):=by
 refine ZC Tryz.func37 rfl Tryz.ntmps37 rfl (Own.refl _) ?_
 simp only [ZV]
 refine Zb<|Za<|gas rfl rfl<|gA<|Zb<|Zb<|Za<|gm rfl rfl<|gr rfl (ZA Tryz.underlying65 rfl)<|gm rfl rfl<|gr rfl (ZA Tryz.underlying65 rfl)<|gr rfl (Z4 rfl rfl) (Zw (fun h10=>?_) (fun h10=>?_))
 ·refine gA<|Zk rfl<|Zb<|Za<|gas rfl rfl<|gA<|Zu<|Zh<|Zy (.inl rfl) Tryz.results37 rfl [] (by decide) ?_
  refine ⟨congrArg Value.bool (Eq.symm ?_),rfl⟩
  exact decide_eq_false (fun e=>by subst e; omega)
 refine gA<|Zl rfl<|Zv<|Ze<|Zb<|Zb<|Za<|gm rfl rfl<|gr rfl (ZA Tryz.underlying65 rfl)<|gm rfl rfl<|gA<|ZB<|ZZ (ι:=Nat) [(0,_),(1,_),(12,_)] [] (fun k=>k≤xs.length∧xs.take k=ys.take k) (fun k Fr0=>((13,natV k)::Fr0)) (fun k Fr0=>Fr0) (fun k=>xs.length - k) 0 (⟨Nat.zero_le _,rfl⟩) ⟨rfl,rfl,rfl,rfl,trivial⟩ ⟨[],by decide,rfl⟩ ?_
 rintro k ⟨hk,htk⟩
 refine Zb<|Za<|gr rfl (ZX rfl rfl) (Zw (fun h14=>?_) (fun h14=>?_))
 ·obtain ⟨u,hu⟩:=get_some (show k<xs.length by omega)
  obtain ⟨v,hv⟩:=get_some (show k<ys.length by omega)
  refine gA<|Zb<|Zk rfl<|Zv<|Ze<|Zb<|ZB<|Zb<|Za<|gm rfl rfl<|gas rfl rfl<|gA<|Zb<|ZO [] true 8 rfl<|Zc 0 rfl rfl ⟨[],by decide,rfl⟩ (Zf (Zo rfl)) ?_
  refine Zc 1 rfl rfl ⟨[],by decide,rfl⟩ (Zf (Zo rfl)) ?_
  refine Zc 2 rfl rfl ⟨[],by decide,rfl⟩ (Zf (Z9 hx Tryz.underlying65 YJ rfl rfl (by omega) (by omega))) ?_
  refine Zc 3 rfl rfl ⟨[],by decide,rfl⟩ (Zf (Zi Tryz.underlying5 rfl rfl (YX hx (XY hu)))) ?_
  refine Zc 4 rfl rfl ⟨[],by decide,rfl⟩ (Zf (Zo rfl)) ?_
  refine Zc 5 rfl rfl ⟨[],by decide,rfl⟩ (Zf (Zo rfl)) ?_
  refine Zc 6 rfl rfl ⟨[],by decide,rfl⟩ (Zf (Z9 hy Tryz.underlying65 YJ rfl rfl (by omega) (by omega))) ?_
  refine Zc 7 rfl rfl ⟨[],by decide,rfl⟩ (Zf (Zi Tryz.underlying5 rfl rfl (YX hy (XY hv)))) ?_
  refine Zc 8 rfl rfl ⟨[],by decide,rfl⟩ (Zf (Z4 rfl rfl)) (Zw (fun h24=>?_) (fun h24=>?_))
  ·refine ZP (.inr ⟨[],by decide,rfl⟩) ?_
   refine Ze<|Zk rfl<|Zb<|Za<|gas rfl rfl<|gA<|Zu<|Zx<|Zh<|Zh<|Zx<|Zh<|Zy (.inl rfl) Tryz.results37 rfl [] (by decide) ?_
   refine ⟨congrArg Value.bool (Eq.symm ?_),rfl⟩
   exact decide_eq_false (fun e=>by subst e; rw [hu] at hv; cases hv; omega)
  refine ZP (.inr ⟨[],by decide,rfl⟩) ?_
  refine Ze<|Zl rfl<|Zv<|ZI<|Ze<|Za<|gr rfl (by exact ZL (b:=1) rfl rfl (by omega)) ?_
  refine gm rfl rfl<|ZM<|Ze ?_
  exact ZR (k+1) ⟨⟨by omega,by rw [take_at hu,take_at hv,htk,show u=v by omega]⟩,by omega⟩ ⟨rfl,rfl,rfl,rfl,trivial⟩ ⟨[],by decide,rfl⟩
 refine gA<|Zb<|Zl rfl<|Z1<|Zs<|Zs<|ZE<|Ze<|Zb<|Za<|gas rfl rfl<|gA<|Zu<|Zy (.inl rfl) Tryz.results37 rfl [] (by decide) ?_
 refine ⟨congrArg Value.bool (Eq.symm ?_),rfl⟩
 rw [List.take_of_length_le (by omega),List.take_of_length_le (by omega)] at htk
 exact decide_eq_true htk
theorem Zsa (l:List Dv) (a:Option Addr) (ca:Nat) (hn:l.length≤100000) (w0:World) (hsl:OldSl w0 [] a l.length 3 (l.flatMap Dv.cells)):Sp Tryz.prog 87 [.slice a l.length ca] w0 [] (fun v L=>∃ (r:Option Nat) (cp:Nat),v=.slice (rowA r) l.length cp∧L=[.row 109 3 r l.length cp (l.flatMap Dv.cells)]):=by
 refine ZC Tryz.func87 rfl Tryz.ntmps87 rfl (Own.refl _) ?_
 simp only [ZV]
 refine Zb<|Za<|gas rfl rfl<|gA<|Zb<|Zb<|Za<|gm rfl rfl<|gr rfl (JB eg_40 Tryz.underlying40 rfl rfl)<|Z0 (fun h4=>?_) (fun h4=>?_)
 ·obtain rfl:a=none:=by cases a with
   | none=>rfl
   | some ad=>cases h4
  obtain rfl:l=[]:=by
   cases l with
   | nil=>rfl
   | cons z zs=>have:=hsl.isSome (by simp); cases this
  refine gA<|Zk rfl<|Zb<|YH 109 3<|Za<|gas rfl rfl<|gA<|Zu<|Zh<|Zy (.inl rfl) Tryz.results87 rfl [0] (by decide) ?_
  exact ⟨none,0,rfl,rfl⟩
 refine gA<|Zl rfl<|Zv<|Ze<|Zb<|Za<|Zt (ZQ (sz:=3) rfl rfl (fun _=>bs_40_0_) rfl rfl (fun b5=>?_))
 refine gm rfl rfl<|Zt (Jy 0 hsl Tryz.underlying40 X2 rfl (by decide) rfl rfl rfl rfl (one_109 l) (by omega) (by omega) (fun _=>(by rfl)) (fun r7 c7=>?_))
 refine gas rfl rfl<|gA<|Zu<|Zy (.inl rfl) Tryz.results87 rfl [0] (by decide) ?_
 exact ⟨r7,c7,by rw [Nat.zero_add],by rw [Nat.zero_add]; rfl⟩
theorem Zsb (l:List St) (a:Option Addr) (ca:Nat) (hn:l.length≤100000) (w0:World) (hsl:OldSl w0 [] a l.length 5 (l.flatMap St.cells)):Sp Tryz.prog 88 [.slice a l.length ca] w0 [] (fun v L=>∃ (r:Option Nat) (cp:Nat),v=.slice (rowA r) l.length cp∧L=[.row 99 5 r l.length cp (l.flatMap St.cells)]):=by
 refine ZC Tryz.func88 rfl Tryz.ntmps88 rfl (Own.refl _) ?_
 simp only [ZV]
 refine Zb<|Za<|gas rfl rfl<|gA<|Zb<|Zb<|Za<|gm rfl rfl<|gr rfl (JB eg_42 Tryz.underlying42 rfl rfl)<|Z0 (fun h4=>?_) (fun h4=>?_)
 ·obtain rfl:a=none:=by cases a with
   | none=>rfl
   | some ad=>cases h4
  obtain rfl:l=[]:=by
   cases l with
   | nil=>rfl
   | cons z zs=>have:=hsl.isSome (by simp); cases this
  refine gA<|Zk rfl<|Zb<|YH 99 5<|Za<|gas rfl rfl<|gA<|Zu<|Zh<|Zy (.inl rfl) Tryz.results88 rfl [0] (by decide) ?_
  exact ⟨none,0,rfl,rfl⟩
 refine gA<|Zl rfl<|Zv<|Ze<|Zb<|Za<|Zt (ZQ (sz:=5) rfl rfl (fun _=>bs_42_0_) rfl rfl (fun b5=>?_))
 refine gm rfl rfl<|Zt (Jy 0 hsl Tryz.underlying42 WN rfl (by decide) rfl rfl rfl rfl (one_99 l) (by omega) (by omega) (fun _=>(by rfl)) (fun r7 c7=>?_))
 refine gas rfl rfl<|gA<|Zu<|Zy (.inl rfl) Tryz.results88 rfl [0] (by decide) ?_
 exact ⟨r7,c7,by rw [Nat.zero_add],by rw [Nat.zero_add]; rfl⟩
theorem Zsc (l:List Cp) (a:Option Addr) (ca:Nat) (hn:l.length≤100000) (w0:World) (hsl:OldSl w0 [] a l.length 6 (l.flatMap Cp.cells)):Sp Tryz.prog 89 [.slice a l.length ca] w0 [] (fun v L=>∃ (r:Option Nat) (cp:Nat),v=.slice (rowA r) l.length cp∧L=[.row 113 6 r l.length cp (l.flatMap Cp.cells)]):=by
 refine ZC Tryz.func89 rfl Tryz.ntmps89 rfl (Own.refl _) ?_
 simp only [ZV]
 refine Zb<|Za<|gas rfl rfl<|gA<|Zb<|Zb<|Za<|gm rfl rfl<|gr rfl (JB eg_43 Tryz.underlying43 rfl rfl)<|Z0 (fun h4=>?_) (fun h4=>?_)
 ·obtain rfl:a=none:=by cases a with
   | none=>rfl
   | some ad=>cases h4
  obtain rfl:l=[]:=by
   cases l with
   | nil=>rfl
   | cons z zs=>have:=hsl.isSome (by simp); cases this
  refine gA<|Zk rfl<|Zb<|YH 113 6<|Za<|gas rfl rfl<|gA<|Zu<|Zh<|Zy (.inl rfl) Tryz.results89 rfl [0] (by decide) ?_
  exact ⟨none,0,rfl,rfl⟩
 refine gA<|Zl rfl<|Zv<|Ze<|Zb<|Za<|Zt (ZQ (sz:=6) rfl rfl (fun _=>bs_43_0_) rfl rfl (fun b5=>?_))
 refine gm rfl rfl<|Zt (Jy 0 hsl Tryz.underlying43 WZ rfl (by decide) rfl rfl rfl rfl (one_113 l) (by omega) (by omega) (fun _=>(by rfl)) (fun r7 c7=>?_))
 refine gas rfl rfl<|gA<|Zu<|Zy (.inl rfl) Tryz.results89 rfl [0] (by decide) ?_
 exact ⟨r7,c7,by rw [Nat.zero_add],by rw [Nat.zero_add]; rfl⟩
theorem Zsd (s:Org) (hle:OrgLe s) (hd:s.ds.length≤6) (hs:s.ss.length≤80) (hc:s.cs.length≤24) (w0:World) (hS:OrgIn s w0 []):Sp Tryz.prog 36 [s.val] w0 [] (fun v L=>∃ c:Cl,v=clV s c∧L=clH s c):=by
 refine ZC Tryz.func36 rfl Tryz.ntmps36 rfl (Own.refl _) ?_
 simp only [ZV]
 refine Zb<|Za<|Zt (Z6 rfl rfl rfl (fun b1=>?_))
 refine Zt (ZU Xu rfl rfl (fun b2=>?_))
 refine gA<|Zb<|ZO [0,1] false 10 rfl<|Zc 0 rfl rfl ⟨[0,1],by decide,rfl⟩ (Zf (Zd rfl (YS _))) ?_
 refine Zc 1 rfl rfl ⟨[0,1],by decide,rfl⟩ (Zf (Zi Tryz.underlying40 rfl rfl (by exact Zp 1 rfl rfl))) ?_
 refine Zc 3 rfl rfl ⟨[0,1],by decide,rfl⟩ (Zf (Zd rfl (Xg _))) ?_
 refine Zc 4 rfl rfl ⟨[0,1],by decide,rfl⟩ (Zf (Zi Tryz.underlying42 rfl rfl (by exact Zp 1 rfl rfl))) ?_
 refine Zc 6 rfl rfl ⟨[0,1],by decide,rfl⟩ (Zf (Zd rfl (XM _))) ?_
 refine Zc 7 rfl rfl ⟨[0,1],by decide,rfl⟩ (Zf (Zi Tryz.underlying43 rfl rfl (by exact Zp 1 rfl rfl))) ?_
 refine ZK 2 rfl (.inr ⟨[0,1],by decide,rfl⟩) (ZJ rfl (vf:=[]) (vc:=[]) rfl rfl Tryz.call87 (fun w1 ho=>Zsa s.ds s.da s.dc (by omega) w1 (hS.d.at ho)) ?_)
 rintro _ _ ⟨r5,c5,rfl,rfl⟩
 refine ZK 5 rfl (.inr ⟨[1,2],by decide,rfl⟩) (ZJ rfl (vf:=[]) (vc:=[]) rfl rfl Tryz.call88 (fun w1 ho=>Zsb s.ss s.sa s.sc (by omega) w1 (hS.t.at ho)) ?_)
 rintro _ _ ⟨r8,c8,rfl,rfl⟩
 refine ZK 8 rfl (.inr ⟨[2,3],by decide,rfl⟩) (ZJ rfl (vf:=[]) (vc:=[]) rfl rfl Tryz.call89 (fun w1 ho=>Zsc s.cs s.ca s.cc (by omega) w1 (hS.c.at ho)) ?_)
 rintro _ _ ⟨r11,c11,rfl,rfl⟩
 refine Zc 9 rfl rfl ⟨[3,4],by decide,rfl⟩ (Zf (ZT rfl (fun _=>Zmm _ _ _ _ _ _ _ _ _))) ?_
 refine ZK 10 rfl (.inr ⟨[3,4],by decide,rfl⟩) (Zz 3 Xu rfl rfl rfl rfl rfl rfl (by rfl) ?_)
 refine ZP (.inl (by kernel_rfl)) ?_
 refine Ze<|Zu<|J2 (.inl rfl) Tryz.results36 (YC Tryz.underlying45 rfl Xu rfl (by rfl) (ZH 3 (off:=0) (k:=4) rfl rfl)) [2,1,0] (by decide) ?_
 exact ⟨⟨r5,c5,r8,c8,r11,c11⟩,rfl,rfl⟩
namespace Ip
theorem Zgv {s:Org} (h:(Yo s).2=0):s.ds.length≤6∧s.ss.length≤80∧s.cs.length≤24:=by
 have hl:WM s=false:=by
  cases e:WM s with
  | false=>rfl
  | true=>unfold Yo at h; rw [if_pos e] at h; cases h
 unfold WM at hl
 simp at hl
 omega
abbrev mkS (s:Org):List Nat:=[s.ds.length,s.ss.length,s.cs.length]
theorem OrgIn.out {s:Org} {w0 w:World} {A T:List HL} (h:OrgIn s w0 []) (ho:Own w0 [] w (A++T)):OrgIn s w (T.filterMap HL.block) :=
  ⟨h.d.atTail ho (by decide),h.r.atTail ho (by decide),h.t.atTail ho (by decide),h.c.atTail ho (by decide),fun x hx=>(h.p x hx).atTail ho (by decide)⟩
theorem m_iface (a:Option Addr) (w:World):(Instr.makeInterface 33 (.pointer a)).run Tryz.prog w=.ok (.iface 33 (.pointer a)) w:=by kernel_rfl
def OpenR (s:Org) (q:SS) (V:Ym) (n:Nat):Value→List HL→Prop:=fun v L =>
  ((Yo s).2≠0∧v=.tuple #[.pointer none,.int .i64 (Yo s).2]∧L=q.hl) ∨
  ((Yo s).2=0∧(∃ m old,V 0=some (m,old)∧old≠mkS s)∧v=.tuple #[.pointer none,.int .i64 6]∧L=q.hl) ∨
  ((Yo s).2=0∧∃ (bp:Nat) (c:Cl) (q2:SS) (V2:Ym),v=.tuple #[.pointer (some ⟨bp,0,none⟩),.int .i64 0]∧q2.Ok V2 (n+1)∧q.Like q2∧((∃ m,V 0=some (m,mkS s)∧V2=V)∨(V 0=none∧V2=Zc4 V 0 (q.num+1) (mkS s)))∧L=psH s bp q.bs c++q2.hl)
theorem SS.Ok.up {q:SS} {V:Ym} {n:Nat} (h:q.Ok V n):q.Ok V (n+1):=⟨h.st,by have:=h.pr; omega,by have:=h.er; omega,by have:=h.num; omega⟩
theorem wrap8 {n:Nat} (h:n<256):IntKind.u8.wrap (n:Int)=((n:Nat):Int):=JC h
end Ip
open Ip
theorem Znv (q:SS) (V:Ym) (n:Nat) (hq:q.Ok V n) (S:List Nat) (w0:World) (hown:Own w0 S w0 q.hl) (s:Org) (hle:OrgLe s) (hS:OrgIn s w0 S) (hn:n<1000000) (h0:∀ m,V 0≠some (m,[])) (hcap:V 0=none→q.m.length<10 * (q.f.b.length / 256 - 2)) (hleft:q.f.left = -1):Sp Tryz.prog 12 [.pointer (some ⟨q.bs,0,none⟩),s.val] w0 S (OpenR s q V n):=by
 refine ZC Tryz.func12 rfl Tryz.ntmps12 rfl hown ?_
 simp only [ZV]
 refine Zb<|Za<|Zt (Z6 rfl rfl rfl (fun b3=>?_))
 refine gas rfl rfl<|gas rfl rfl<|gA<|Zb<|Zb<|Za<|gr rfl (Zr Tryz.underlying45 rfl Xu rfl (by exact ZH 0 (off:=0) (k:=4) rfl rfl) rfl) ?_
 refine Zt (ZJ rfl (vf:=[]) (vc:=[]) rfl rfl Tryz.call35 (fun w1 ho=>Zk4 s hle w1 (hS.at ho)) ?_)
 rintro _ _ ⟨rfl,rfl⟩
 rw [Zrt]
 refine gm rfl rfl<|gr rfl (ZD rfl rfl)<|gr rfl (ZD rfl rfl)<|Zt (ZU YM rfl rfl (fun b6=>?_))
 refine Zt (Zz 0 YM rfl rfl rfl rfl rfl rfl (by rfl) ?_)
 refine gas rfl rfl<|gA<|Zb<|Za<|gm rfl rfl<|gr rfl (Z4 rfl rfl) (Zw (fun h21=>?_) (fun h21=>?_))
 ·refine gA<|Zk rfl<|Zb<|Za<|gm rfl rfl<|gas rfl rfl<|gas rfl rfl<|gA<|Zu<|Zh<|XE (.inl rfl) Tryz.results12 rfl rfl (ZS (A:=[]) (B:=[_,_]) (T:=q.hl) [] 2 (by decide) (by decide) rfl rfl) ?_
  exact .inl ⟨h21,rfl,rfl⟩
 have hck:(Yo s).2=0:=by omega
 obtain ⟨hnd,hns,hnc⟩:=Zgv hck
 refine gA<|Zl rfl<|Zv<|Ze<|Zb<|Za<|gm rfl rfl<|gr rfl (Zkw rfl (m_iface _))<|gr rfl (Zr Tryz.underlying45 rfl Xu rfl (by exact ZH 1 (off:=0) (k:=4) rfl rfl) rfl) ?_
 refine Zt (ZJ rfl (vf:=[]) (vc:=[]) rfl rfl Tryz.call36 (fun w1 ho=>Zsd s hle hnd hns hnc w1 (hS.at ho)) ?_)
 rintro _ _ ⟨c9,rfl,rfl⟩
 refine gr rfl (ZT rfl (fun _=>Zmn _ _ _ _ _ _ _ _ _ _ _ _ _ _ _)) ?_
 refine Zt (Z6 rfl rfl rfl (fun b28=>?_))
 refine gas rfl rfl<|gA<|Zb<|Zb<|Za<|gm rfl rfl<|gnc rfl rfl<|gr rfl (Zd rfl (VF _))<|gr rfl (Zi Tryz.underlying50 rfl rfl (by exact Zp 0 rfl rfl)) ?_
 refine Zt<|Wk (rv:=(.pointer (some ⟨q.bs,0,none⟩))) (F:=181) rfl rfl (Zpi _) Tryz.call181<|(Yn [_,_,_,_,_,_] q.hl rfl rfl (vf:=[]) (vc:=[]) rfl rfl Tryz.call181 rfl (fun w how hc=>q_keys q V n hq _ w hc) ?_)
 rintro _ _ ⟨rk,kk,ck,zk,rfl,rfl⟩
 refine gm rfl rfl<|gr rfl (ZD rfl rfl)<|gr rfl (ZD rfl rfl)<|gas rfl rfl<|gas rfl rfl<|gA<|Zb<|Za<|gm rfl rfl<|gr rfl (Z4 rfl rfl) (Zw (fun h38=>?_) (fun h38=>?_))
 ·exact absurd rfl h38
 refine gA<|Zl rfl<|Zv<|Ze<|Zb<|Za<|gm rfl rfl<|gnc rfl rfl<|gr rfl (Zd rfl (VF _))<|gr rfl (Zi Tryz.underlying50 rfl rfl (by exact Zp 0 rfl rfl)) ?_
 have hg0:W7 0 V=(match V 0 with | none=>[] | some p=>p.2,0):=by
  unfold W7
  rw [if_neg (by omega),show (0:Int).toNat=0 from rfl]
  cases V 0 <;> rfl
 obtain ⟨old,hold⟩:∃ old,(match V 0 with | none=>[] | some p=>p.2)=old:=⟨_,rfl⟩
 rw [hold] at hg0
 refine Zt<|Wk (rv:=(.pointer (some ⟨q.bs,0,none⟩))) (F:=180) rfl rfl (m_get _) Tryz.call180<|(Yn [_,_,_,_,_,_,_] q.hl rfl rfl (vf:=[]) (vc:=[]) rfl rfl Tryz.call180 rfl (fun w how hc=>q_get q V n hq _ w hc 0) ?_)
 rintro _ _ ⟨rg,cg,rfl,rfl⟩
 rw [hg0]
 dsimp only
 refine gm rfl rfl<|gr rfl (ZD rfl rfl)<|gr rfl (ZD rfl rfl)<|gas rfl rfl<|gas rfl rfl<|gA<|Zb<|Zb<|Za<|gm rfl rfl<|gr rfl (Z4 rfl rfl) (Zw (fun h49=>?_) (fun h49=>?_))
 ·exact absurd rfl h49
 refine gA<|Zl rfl<|Zv<|Ze<|Zb<|Za<|gr rfl (Zd rfl (YS _))<|gr rfl (Zi Tryz.underlying40 rfl rfl (by exact Zp 5 rfl rfl)) ?_
 refine gr rfl (ZA Tryz.underlying40 rfl)<|gr rfl (Xb Tryz.runUnderlying3 Tryz.runUnderlying5 rfl (wrap8 (by omega))) ?_
 refine gr rfl (Zd rfl (Xg _))<|gr rfl (Zi Tryz.underlying42 rfl rfl (by exact Zp 5 rfl rfl)) ?_
 refine gr rfl (ZA Tryz.underlying42 rfl)<|gr rfl (Xb Tryz.runUnderlying3 Tryz.runUnderlying5 rfl (wrap8 (by omega))) ?_
 refine gr rfl (Zd rfl (XM _))<|gr rfl (Zi Tryz.underlying43 rfl rfl (by exact Zp 5 rfl rfl)) ?_
 refine gr rfl (ZA Tryz.underlying43 rfl)<|gr rfl (Xb Tryz.runUnderlying3 Tryz.runUnderlying5 rfl (wrap8 (by omega))) ?_
 refine Zt (ZQ (sz:=1) rfl rfl (fun _=>Zi1 _ _ _) rfl rfl (fun b63=>?_))
 refine gas rfl rfl<|gA<|Zb<|ZB<|Zb<|Za<|gm rfl rfl<|gr rfl (ZA Tryz.underlying65 rfl)<|gr rfl (Z8 rfl rfl) (Zw (fun h67=>?_) (fun h67=>?_))
 ·have hol:old=[]:=List.eq_nil_of_length_eq_zero (by omega)
  have hv0:V 0=none:=by
   cases hv:V 0 with
   | none=>rfl
   | some p =>
    rw [hv] at hold
    exact absurd (by rw [hv]; show some (p.1,p.2)=_; rw [show p.2=old from hold,hol]) (h0 p.1)
  refine gas rfl rfl<|gA<|Zk rfl<|Zb<|Za<|gm rfl rfl<|gnc rfl rfl<|gr rfl (Zd rfl (VF _))<|gr rfl (Zi Tryz.underlying50 rfl rfl (by exact Zp 1 rfl rfl)) ?_
  refine gm rfl rfl<|Zt<|Wk (rv:=(.pointer (some ⟨q.bs,0,none⟩))) (F:=182) rfl rfl (Znp _) Tryz.call182<|(Yn [_,_,_,_,_,_,_,_,_] q.hl rfl rfl (vf:=[]) (vc:=[]) rfl rfl Tryz.call182 rfl (fun w how hc=>Znu q V n hq _ w hc hn 0 (by decide) (mkS s) (by intro z hz; simp only [List.mem_cons,List.not_mem_nil,or_false] at hz; omega) (show (3:Nat)≤16 by decide) (some ⟨b63,0,none⟩) 3 (how.rowSlT (A:=[_,_,_,_,_,_,_,_,_]) 0 rfl)) ?_)
  rintro _ _ (⟨⟨_,hf⟩,_⟩ | ⟨_,q2,rfl,hq2,hlk,rfl⟩ | ⟨_,q2,rfl,hlf,_⟩)
  ·exact absurd (hcap hv0) (by omega)
  ·refine gas rfl rfl<|gA<|Zb<|Za<|gm rfl rfl<|gr rfl (Z4 rfl rfl) (Zw (fun h75=>?_) (fun h75=>?_))
   ·exact absurd rfl h75
   refine gA<|Zl rfl<|Zv<|ZI<|Ze<|Zb<|Za<|gm rfl rfl<|gas rfl rfl<|gas rfl rfl<|gA<|Zu<|XE (.inl rfl) Tryz.results12 rfl rfl (ZS (A:=[_,_,_,_]) (B:=[_,_,_,_,_,_,_,_,_]) (T:=q2.hl) [1,2,3,4] 9 (by decide) (by decide) rfl rfl) ?_
   exact .inr (.inr ⟨hck,b28,c9,q2,_,rfl,hq2,hlk,.inr ⟨hv0,rfl⟩,rfl⟩)
  exact absurd hleft hlf
 obtain ⟨m9,hvm⟩:∃ m9,V 0=some (m9,old):=by
  cases hv:V 0 with
  | none=>rw [hv] at hold; subst hold; exact absurd rfl h67
  | some p=>rw [hv] at hold; exact ⟨p.1,by rw [← show p.2=old from hold]⟩
 refine gas rfl rfl<|gA<|Zl rfl<|Zb<|Za<|gm rfl rfl<|gm rfl rfl<|Zt (ZJ rfl (vf:=[]) (vc:=[]) rfl rfl Tryz.call37 (fun w1 ho=>Zr9 old (mkS s) _ _ _ _ (by have:=hq.bytes hvm; omega) w1 (ho.rowSl 8 rfl) (ho.rowSl 0 rfl)) ?_)
 rintro _ _ ⟨rfl,rfl⟩
 refine Z0 (fun h80=>?_) (fun h80=>?_)
 ·refine gr rfl (rd_not rfl)<|gas rfl rfl<|gA<|Zl rfl<|Zv<|ZI<|Ze<|Zb<|Za<|gm rfl rfl<|gas rfl rfl<|gas rfl rfl<|gA<|Zu<|XE (.inl rfl) Tryz.results12 rfl rfl (ZS (A:=[_,_,_,_]) (B:=[_,_,_,_,_,_,_,_,_]) (T:=q.hl) [1,2,3,4] 9 (by decide) (by decide) rfl rfl) ?_
  exact .inr (.inr ⟨hck,b28,c9,q,V,rfl,hq.up,SS.Like.refl q,.inl ⟨m9,by rw [hvm,of_decide_eq_true h80],rfl⟩,rfl⟩)
 refine gr rfl (rd_not rfl)<|gas rfl rfl<|gA<|Zk rfl<|Zb<|Za<|gas rfl rfl<|gas rfl rfl<|gA<|Zu<|Zx<|Zh<|XE (.inl rfl) Tryz.results12 rfl rfl (ZS (A:=[]) (B:=[_,_,_,_,_,_,_,_,_]) (T:=q.hl) [] 9 (by decide) (by decide) rfl rfl) ?_
 exact .inr (.inl ⟨hck,⟨m9,old,hvm,of_decide_eq_false h80⟩,rfl,rfl⟩)
end Go.Proofs.YthcbcdjkfefnlaaGreatDoor
