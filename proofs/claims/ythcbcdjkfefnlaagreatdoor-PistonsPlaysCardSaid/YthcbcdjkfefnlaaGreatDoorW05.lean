import Derived.Test.YthcbcdjkfefnlaaGreatDoorW04
import Derived.Test.YthcbcdjkfefnlaaGreatDoorW01
import Derived.Test.YthcbcdjkfefnlaaGreatDoorRows
import Derived.LaidMore
import Derived.MakeChecks
import Derived.Stop.Joined
import Derived.LaidHandle
import Derived.Test.YthcbcdjkfefnlaaGreatDoorW00
/- A part of the proof: walks of the program. -/
set_option autoImplicit false
set_option linter.unusedSimpArgs false
set_option linter.unusedVariables false
set_option linter.unnecessarySimpa false
set_option maxRecDepth 100000
set_option maxHeartbeats 8000000
namespace Go.Proofs.YthcbcdjkfefnlaaGreatDoor
open Go.Gv
open Go.RowKit
open Go.Sn hiding En keysP keysP_len stop_ok
open Go.Ps
open Iv Sx Ip
theorem ty_37 : TyF Tryz.prog 37 (.int .i64 0) 1 8:=TyF.mk' (by kernel_rfl)
namespace Ip
theorem Wl (l:List Nat):(Y9 l).map Xy=l.map natV:=by unfold Y9; rw [List.map_map]; rfl
theorem arr3 (a b c:Int) {k:Nat} (h:k<3):(#[.int .i64 a,.int .i64 b,.int .i64 c]:Array Value)[k]? = some (.int .i64 ([a,b,c].getD k 0)):=by
 rcases k with _ | _ | _ | k
 ·rfl
 ·rfl
 ·rfl
 ·omega
theorem arr2 (a b:Int) {k:Nat} (h:k<2):(#[.int .i64 a,.int .i64 b]:Array Value)[k]? = some (.int .i64 ([a,b].getD k 0)):=by
 rcases k with _ | _ | k
 ·rfl
 ·rfl
 ·omega
def Xq : List Int→Int
  | []=>0
  | e::l=>if e≠0 then e else Xq l
theorem Zag : ∀ {l:List Int} {k:Nat},(∀ j,j<k→l.getD j 0=0)→l.getD k 0≠0→Xq l=l.getD k 0
  | [],k,_,h=>by simp at h
  | e::l,0,_,h=>by
    have h:e≠0:=h
    show (if e≠0 then e else Xq l)=e
    rw [if_pos h]
  | e::l,k+1,h0,h=>by
    have h1:e=0:=h0 0 (Nat.succ_pos k)
    show (if e≠0 then e else Xq l)=l.getD k 0
    rw [if_neg (by omega)]
    exact Zag (fun j hj=>h0 (j+1) (by omega)) h
theorem VT : ∀ {l:List Int},(∀ j,j<l.length→l.getD j 0=0)→Xq l=0
  | [],_=>rfl
  | e::l,h=>by
    have h1:e=0:=h 0 (by simp)
    show (if e≠0 then e else Xq l)=0
    rw [if_neg (by omega)]
    exact VT fun j hj=>h (j+1) (by simp; omega)
theorem Zpm {q:SS} {V:Ym} {n:Nat} (h:q.Ok V n∨q.Stop):(∃ V n,q.Ok V n)∨q.Stop:=h.imp (fun h=>⟨V,n,h⟩) id
theorem Znw (r:Rg) (ns nc:Nat) (hr:RgOk ns nc r) (hns:ns≤80) (hnc:nc≤24) (a1 a2:Option Addr) (c1 c2:Nat) (w0:World) (h1:OldSl w0 [] a1 r.1.length 1 (r.1.map natV)) (h2:OldSl w0 [] a2 r.2.length 1 (r.2.map natV)):Sp Tryz.prog 55 [.agg #[.slice a1 r.1.length c1,.slice a2 r.2.length c2]] w0 [] (fun v L=>∃ b,v=.slice (rowA (some b)) (packR r.1 r.2).length 14∧L=[.row 5 1 (some b) (packR r.1 r.2).length 14 ((packR r.1 r.2).map u8V)]):=by
 refine (pack_okP r.1 r.2 a1 a2 c1 c2 (fun i hi=>Nat.lt_of_lt_of_le (hr.sn i hi) hns) (fun i hi=>Nat.lt_of_lt_of_le (hr.cn i hi) hnc) (Vr hr hns) (Vs hr hnc) w0 h1 h2).mono ?_
 rintro v L ⟨b,rfl,rfl⟩
 exact ⟨b,by rw [Je],by rw [Je]⟩
def SetR (s:Org) (q:SS) (V:Ym) (n:Nat) (x:Pis) (ss cs:List Int):Value→List HL→Prop:=fun v L =>
  (Xq [pnE s.ds.length x,XB s.ss.length s.cs.length ss cs,q.err]≠0∧v=.int .i64 (Xq [pnE s.ds.length x,XB s.ss.length s.cs.length ss cs,q.err])∧L=q.hl) ∨
  (Xq [pnE s.ds.length x,XB s.ss.length s.cs.length ss cs,q.err]=0∧q.Ok V n∧pnE s.ds.length x=0∧∃ r:Rg,ss=Y9 r.1∧cs=Y9 r.2∧RgOk s.ss.length s.cs.length r∧PutR q V n (keyN x) (packR (Yz s x r).1 (Yz s x r).2) v L)
def ClearR (s:Org) (q:SS) (V:Ym) (n:Nat) (x:Pis):Value→List HL→Prop:=fun v L =>
  (Xq [pnE s.ds.length x,q.err]≠0∧v=.int .i64 (Xq [pnE s.ds.length x,q.err])∧L=q.hl) ∨
  (Xq [pnE s.ds.length x,q.err]=0∧q.Ok V n∧pnE s.ds.length x=0∧((XJ V x=none∧v=.int .i64 4∧L=q.hl)∨((XJ V x).isSome=true∧PutR q V n (keyN x) [] v L)))
def Zqw (s:Org) (q:SS) (V:Ym) (n:Nat) (x:Pis) (ss cs:List Int) (e:Int) (p:Rg):Prop :=
  (Xq [pnE s.ds.length x,XB s.ss.length s.cs.length ss cs,q.err]≠0∧e=Xq [pnE s.ds.length x,XB s.ss.length s.cs.length ss cs,q.err]∧p=([],[])) ∨
  (Xq [pnE s.ds.length x,XB s.ss.length s.cs.length ss cs,q.err]=0∧q.Ok V n∧pnE s.ds.length x=0∧∃ r:Rg,ss=Y9 r.1∧cs=Y9 r.2∧RgOk s.ss.length s.cs.length r∧((XJ V x=none∧e=4∧p=([],[]))∨∃ k,XJ V x=some k∧e=0∧p=Xf s x k r))
def PressR (s:Org) (q:SS) (V:Ym) (n:Nat) (x:Pis) (ss cs:List Int):Value→List HL→Prop:=fun v L =>
  ∃ (e:Int) (p:Rg) (r:Option Nat) (c:Nat) (r2:Option Nat) (c2:Nat),v=.tuple #[.agg #[.slice (rowA r) p.1.length c,.slice (rowA r2) p.2.length c2],.int .i64 e]∧L=.row 3 1 r p.1.length c (p.1.map natV) :: .row 3 1 r2 p.2.length c2 (p.2.map natV)::q.hl∧Zqw s q V n x ss cs e p
end Ip
open Ip
theorem Zqx (q:SS) (V:Ym) (n:Nat) (hq:q.Ok V n∨q.Stop) (S:List Nat) (w0:World) (hown:Own w0 S w0 q.hl) (hn:n<1000000) (s:Org) (bp:Nat) (hP:PsIn s bp q.bs w0 S) (x:Pis) (ss cs:List Int) (a1 a2:Option Addr) (c1 c2:Nat) (hl1:ss.length≤140737488355328) (hl2:cs.length≤140737488355328) (h1:OldSl w0 S a1 ss.length 1 (ss.map Xy)) (h2:OldSl w0 S a2 cs.length 1 (cs.map Xy)):Sp Tryz.prog 19 [.pointer (some ⟨bp,0,none⟩),Pis.val x,.agg #[.slice a1 ss.length c1,.slice a2 cs.length c2]] w0 S (SetR s q V n x ss cs):=by
 have hp:=hP.p
 have hns:=hP.ns
 have hnc:=hP.nc
 refine ZC Tryz.func19 rfl Tryz.ntmps19 rfl hown ?_
 simp only [ZV]
 refine Zb<|Za<|Zt (Z6 rfl rfl rfl (fun b4=>?_))
 refine Zt (Z6 rfl rfl rfl (fun b5=>?_))
 refine gas rfl rfl<|gA<|Zb<|Zb<|Za<|gm rfl rfl<|Zt (ZJ rfl (vf:=[]) (vc:=[]) rfl rfl Tryz.call43 (fun w1 ho=>Zck bp true w1 (by have h9:=(hP.at ho).p 0 _ rfl; exact h9)) ?_)
 rintro _ _ ⟨rfl,rfl⟩
 refine gA<|Zl rfl<|Zv<|Ze<|Zb<|Zb<|Zdo [_,_] q.hl [0,1] true 9 rfl rfl<|Zc 0 rfl rfl (YL 0 rfl) (Zf (Zo rfl)) ?_
 refine Zc 1 rfl rfl (YL 0 rfl) (Zf (Zr Tryz.underlying23 rfl Yg rfl (by exact ZH 1 (off:=0) (k:=3) rfl rfl) rfl)) ?_
 refine Zc 2 rfl rfl (YL 0 rfl) (YE (vf:=[]) (vc:=[]) rfl rfl Tryz.call44 (fun w1 ho=>Ze9 s bp q.bs w1 (hP.at ho) x) (by rintro _ _ ⟨h,_⟩; exact h)) ?_
 refine Zc 3 rfl rfl (YL 0 rfl) (Zf (Zo rfl)) ?_
 refine Zc 4 rfl rfl (YL 0 rfl) (Zf (Zr Tryz.underlying26 rfl Z5 rfl (by exact ZH 0 (off:=0) (k:=2) rfl rfl) rfl)) ?_
 refine Zc 5 rfl rfl (YL 0 rfl) (YE (vf:=[]) (vc:=[]) rfl rfl Tryz.call45 (fun w1 ho=>VY s bp q.bs w1 (hP.at ho) ss cs a1 a2 c1 c2 hl1 hl2 (h1.at ho) (h2.at ho)) (by rintro _ _ ⟨h,_⟩; exact h)) ?_
 refine Zc 6 rfl rfl (YL 0 rfl) (Zf (Zo rfl)) ?_
 refine Zc 9 rfl rfl (YL 0 rfl) (Zf (Zo rfl)) ?_
 refine ZK 7 rfl (.inr (YL 0 rfl)) (Yn [_,_] q.hl rfl rfl (vf:=[]) (vc:=[]) rfl rfl Tryz.call46 rfl (fun w how hc=>Zfd q (Zpm hq) _ w hc s bp (hP.out (A:=[_,_]) how)) ?_)
 rintro _ _ ⟨rfl,rfl⟩
 refine Zc 8 rfl rfl (YL 0 rfl) (Zf (ZT rfl (fun _=>Zdy _ _ _))) ?_
 refine ZP (.inr (YL 0 rfl)) ?_
 refine Ze<|ZB<|ZZ (ι:=Nat) [(0,_),(4,_),(5,_),(21,_)] (_::_::q.hl) (fun k=>k≤3∧∀ j,j<k→[pnE s.ds.length x,XB s.ss.length s.cs.length ss cs,q.err].getD j 0=0) (fun k Fr0=>((22,natV k)::Fr0)) (fun k Fr0=>Fr0) (fun k=>3 - k) 0 (⟨Nat.zero_le _,fun j h=>absurd h (Nat.not_lt_zero j)⟩) ⟨rfl,rfl,rfl,rfl,rfl,trivial⟩ (YL 0 rfl) ?_
 rintro k ⟨hk,hall⟩
 refine Zb<|Za<|gr rfl (ZX rfl rfl) (Zw (fun hlt=>?_) (fun hlt=>?_))
 ·refine gA<|Zb<|Zk rfl<|Zv<|Ze<|Zb<|ZB<|Zb<|Za<|gr rfl (V4 Tryz.underlying119 Tryz.underlying37 ty_37 rfl rfl (by omega) (arr3 _ _ _ (by omega))) ?_
  refine gas rfl rfl<|gA<|Zb<|Za<|gm rfl rfl<|gr rfl (Z4 rfl rfl) (Zw (fun hne=>?_) (fun hne=>?_))
  ·refine gA<|Zk rfl<|Zb<|Za<|gm rfl rfl<|gas rfl rfl<|gA<|Zu<|Zx<|Zh<|Zh<|Zx<|Zh<|ZW (.inl rfl) Tryz.results19 rfl (ZS (A:=[]) (B:=[_,_]) (T:=q.hl) [] 2 (by decide) (by decide) rfl rfl) ?_
   have hz:=Zag hall hne
   exact .inl ⟨by rw [hz]; exact hne,by rw [hz],rfl⟩
  refine gA<|Zl rfl<|Zv<|ZI<|Ze<|Za<|gr rfl (by exact ZL (b:=1) rfl rfl (by omega)) ?_
  refine gm rfl rfl<|ZM<|Ze ?_
  exact ZR (k+1) ⟨⟨by omega,fun j hj=>by
   rcases Nat.lt_or_eq_of_le (Nat.le_of_lt_succ hj) with h | rfl
   ·exact hall j h
   ·omega⟩,by omega⟩ ⟨rfl,rfl,rfl,rfl,rfl,trivial⟩ (YL 0 rfl)
 refine gA<|Zb<|Zl rfl<|Z1<|Zs<|Zs<|ZE<|Ze<|Zb ?_
 have hz:=VT (l:=[pnE s.ds.length x,XB s.ss.length s.cs.length ss cs,q.err]) (fun j hj=>hall j (by simp at hj; omega))
 have hx0:pnE s.ds.length x=0:=hall 0 (by omega)
 have hr0:XB s.ss.length s.cs.length ss cs=0:=hall 1 (by omega)
 have hq0:q.err=0:=hall 2 (by omega)
 have hqo:q.Ok V n:=hq.resolve_right (fun h=>h.no hq0)
 obtain ⟨r,rfl,rfl,hr⟩:=Ze7 hr0
 rw [YA] at h1 h2
 rw [Wl] at h1 h2
 rw [YA,YA]
 have hkN:kyP x=((keyN x:Nat):Int):=(Xw hP.nd hx0).2.2.symm
 have hk9:=Xw hP.nd hx0
 have hrl1:=Vr hr hns
 have hrl2:=Vs hr hnc
 have hwo:=Za7 (s:=s) x hr
 refine Za<|gm rfl rfl<|gr rfl (Zr Tryz.underlying23 rfl Yg rfl (by exact ZH 1 (off:=0) (k:=3) rfl rfl) rfl) ?_
 refine gr rfl (Zr Tryz.underlying26 rfl Z5 rfl (by exact ZH 0 (off:=0) (k:=2) rfl rfl) rfl) ?_
 refine Zt (ZJ rfl (vf:=[]) (vc:=[]) rfl rfl Tryz.call53 (fun w1 ho=>Zfc s bp q.bs w1 (hP.at ho) x r.1 r.2 a1 a2 c1 c2 hr.sn hr.cn hrl1 hrl2 (h1.at ho) (h2.at ho)) ?_)
 rintro _ _ ⟨r1,rd1,r3,rd3,r2,rd2,r4,rd4,rfl,rfl⟩
 refine gm rfl rfl<|gr rfl (ZD rfl rfl)<|gr rfl (ZD rfl rfl)<|Zt (ZU Z5 rfl rfl (fun b9=>?_))
 refine Zt (ZU Z5 rfl rfl (fun b10=>?_))
 refine Zt (Zz 1 Z5 rfl rfl rfl rfl rfl rfl (by rfl) ?_)
 refine Zt (Zz 0 Z5 rfl rfl rfl rfl rfl rfl (by rfl) ?_)
 refine gA<|Zb<|ZO [0,1,2,3,4,5,6,7] true 11 rfl<|Zc 0 rfl rfl ⟨[0,1,2,3,4,5,6,7],by decide,rfl⟩ (Zf (Zo rfl)) ?_
 refine Zc 1 rfl rfl ⟨[0,1,2,3,4,5,6,7],by decide,rfl⟩ (Zf (ZN rfl)) ?_
 refine Zc 2 rfl rfl ⟨[0,1,2,3,4,5,6,7],by decide,rfl⟩ (Zf (Zd rfl (VF _))) ?_
 refine Zc 3 rfl rfl ⟨[0,1,2,3,4,5,6,7],by decide,rfl⟩ (Zf (Zi Tryz.underlying50 rfl rfl (Yj hp hP.o (j:=1) rfl))) ?_
 refine Zc 4 rfl rfl ⟨[0,1,2,3,4,5,6,7],by decide,rfl⟩ (Zf (Zr Tryz.underlying23 rfl Yg rfl (by exact ZH 7 (off:=0) (k:=3) rfl rfl) rfl)) ?_
 refine Zc 5 rfl rfl ⟨[0,1,2,3,4,5,6,7],by decide,rfl⟩ (YE (vf:=[]) (vc:=[]) rfl rfl Tryz.call54 (fun w1 ho=>Zif hP.nd x hx0 w1) (by rintro _ _ ⟨h,_⟩; exact h)) ?_
 rw [hkN]
 refine Zc 6 rfl rfl ⟨[0,1,2,3,4,5,6,7],by decide,rfl⟩ (Zf (Zr Tryz.underlying26 rfl Z5 rfl (by exact ZH 1 (off:=0) (k:=2) rfl rfl) rfl)) ?_
 refine Zc 8 rfl rfl ⟨[0,1,2,3,4,5,6,7],by decide,rfl⟩ (Zf (Vq rfl)) ?_
 refine Zc 9 rfl rfl ⟨[0,1,2,3,4,5,6,7],by decide,rfl⟩ (Zf (Zo rfl)) ?_
 refine ZK 7 rfl (.inr ⟨[0,1,2,3,4,5,6,7],by decide,rfl⟩) (ZJ rfl (vf:=[]) (vc:=[]) rfl rfl Tryz.call55 (fun w1 ho=>Znw (Yz s x r) _ _ hwo hns hnc _ _ _ _ w1 (ho.rowSl 2 rfl) (ho.rowSl 3 rfl)) ?_)
 rintro _ _ ⟨b9,rfl,rfl⟩
 refine ZK 10 rfl (.inr ⟨[1,2,3,4,5,6,7,8],by decide,rfl⟩) (Wk (rv:=(.pointer (some ⟨q.bs,0,none⟩))) (F:=182) rfl rfl (Znp _) Tryz.call182 ?_)
 refine (Yn [_,_,_,_,_,_,_,_,_] q.hl rfl rfl (vf:=[]) (vc:=[]) rfl rfl Tryz.call182 rfl (fun w how hc=>Znu q V n hqo _ w hc hn (keyN x) (by omega) (packR (Yz s x r).1 (Yz s x r).2) (Zib _ _) (by rw [Je]; decide) _ _ (how.rowSlT (A:=[_,_,_,_,_,_,_,_,_]) 0 rfl)) ?_)
 rintro v9 T9 hput
 refine Zc 11 rfl rfl ⟨[1,2,3,4,5,6,7,8],by decide,rfl⟩ (Zf (ZY rfl)) ?_
 refine ZP (.inr ⟨[1,2,3,4,5,6,7,8],by decide,rfl⟩) ?_
 refine Ze<|Zu<|ZW (.inl rfl) Tryz.results19 rfl (ZS (A:=[]) (B:=[_,_,_,_,_,_,_,_,_]) (T:=T9) [] 9 (by decide) (by decide) rfl rfl) ?_
 exact .inr ⟨hz,hqo,hx0,r,rfl,rfl,hr,hput⟩
theorem Zse (q:SS) (V:Ym) (n:Nat) (hq:q.Ok V n∨q.Stop) (S:List Nat) (w0:World) (hown:Own w0 S w0 q.hl) (hn:n<1000000) (s:Org) (bp:Nat) (hP:PsIn s bp q.bs w0 S) (x:Pis):Sp Tryz.prog 20 [.pointer (some ⟨bp,0,none⟩),Pis.val x] w0 S (ClearR s q V n x):=by
 have hp:=hP.p
 have hns:=hP.ns
 have hnc:=hP.nc
 refine ZC Tryz.func20 rfl Tryz.ntmps20 rfl hown ?_
 simp only [ZV]
 refine Zb<|Za<|Zt (Z6 rfl rfl rfl (fun b3=>?_))
 refine gas rfl rfl<|gA<|Zb<|Zb<|Za<|gm rfl rfl<|Zt (ZJ rfl (vf:=[]) (vc:=[]) rfl rfl Tryz.call43 (fun w1 ho=>Zck bp true w1 (by have h9:=(hP.at ho).p 0 _ rfl; exact h9)) ?_)
 rintro _ _ ⟨rfl,rfl⟩
 refine gA<|Zl rfl<|Zv<|Ze<|Zb<|Zb<|Za<|gm rfl rfl<|gr rfl (Zr Tryz.underlying23 rfl Yg rfl (by exact ZH 0 (off:=0) (k:=3) rfl rfl) rfl) ?_
 refine Zt (ZJ rfl (vf:=[]) (vc:=[]) rfl rfl Tryz.call44 (fun w1 ho=>Ze9 s bp q.bs w1 (hP.at ho) x) ?_)
 rintro _ _ ⟨rfl,rfl⟩
 refine gm rfl rfl<|Zt (Yn [_] q.hl rfl rfl (vf:=[]) (vc:=[]) rfl rfl Tryz.call46 rfl (fun w how hc=>Zfd q (Zpm hq) _ w hc s bp (hP.out (A:=[_]) how)) ?_)
 rintro _ _ ⟨rfl,rfl⟩
 refine gr rfl (ZT rfl (fun _=>Zhi _ _)) ?_
 refine gm rfl rfl<|gA<|ZB<|ZZ (ι:=Nat) [(0,_),(3,_),(16,_)] (_::q.hl) (fun k=>k≤2∧∀ j,j<k→[pnE s.ds.length x,q.err].getD j 0=0) (fun k Fr0=>((17,natV k)::Fr0)) (fun k Fr0=>Fr0) (fun k=>2 - k) 0 (⟨Nat.zero_le _,fun j h=>absurd h (Nat.not_lt_zero j)⟩) ⟨rfl,rfl,rfl,rfl,trivial⟩ (YL 0 rfl) ?_
 rintro k ⟨hk,hall⟩
 refine Zb<|Za<|gr rfl (ZX rfl rfl) (Zw (fun hlt=>?_) (fun hlt=>?_))
 ·refine gA<|Zb<|Zk rfl<|Zv<|Ze<|Zb<|ZB<|Zb<|Za<|gr rfl (V4 Tryz.underlying125 Tryz.underlying37 ty_37 rfl rfl (by omega) (arr2 _ _ (by omega))) ?_
  refine gas rfl rfl<|gA<|Zb<|Za<|gm rfl rfl<|gr rfl (Z4 rfl rfl) (Zw (fun hne=>?_) (fun hne=>?_))
  ·refine gA<|Zk rfl<|Zb<|Za<|gm rfl rfl<|gas rfl rfl<|gA<|Zu<|Zx<|Zh<|Zh<|Zx<|Zh<|ZW (.inl rfl) Tryz.results20 rfl (ZS (A:=[]) (B:=[_]) (T:=q.hl) [] 1 (by decide) (by decide) rfl rfl) ?_
   have hz:=Zag hall hne
   exact .inl ⟨by rw [hz]; exact hne,by rw [hz],rfl⟩
  refine gA<|Zl rfl<|Zv<|ZI<|Ze<|Za<|gr rfl (by exact ZL (b:=1) rfl rfl (by omega)) ?_
  refine gm rfl rfl<|ZM<|Ze ?_
  exact ZR (k+1) ⟨⟨by omega,fun j hj=>by
   rcases Nat.lt_or_eq_of_le (Nat.le_of_lt_succ hj) with h | rfl
   ·exact hall j h
   ·omega⟩,by omega⟩ ⟨rfl,rfl,rfl,rfl,trivial⟩ (YL 0 rfl)
 refine gA<|Zb<|Zl rfl<|Z1<|Zs<|Zs<|ZE<|Ze<|Zb<|Zb ?_
 have hz:=VT (l:=[pnE s.ds.length x,q.err]) (fun j hj=>hall j (by simp at hj; omega))
 have hx0:pnE s.ds.length x=0:=hall 0 (by omega)
 have hq0:q.err=0:=hall 1 (by omega)
 have hqo:q.Ok V n:=hq.resolve_right (fun h=>h.no hq0)
 have hkN:kyP x=((keyN x:Nat):Int):=(Xw hP.nd hx0).2.2.symm
 have hk9:=Xw hP.nd hx0
 refine Za<|gm rfl rfl<|gr rfl (Zr Tryz.underlying23 rfl Yg rfl (by exact ZH 0 (off:=0) (k:=3) rfl rfl) rfl) ?_
 refine Zt (Yn [_] q.hl rfl rfl (vf:=[]) (vc:=[]) rfl rfl Tryz.call47 rfl (fun w how hc=>Zb7 q V n hqo _ w hc s bp (hP.out (A:=[_]) how) x hx0) ?_)
 rintro _ _ ⟨kr,kc,kr2,kc2,rfl,rfl⟩
 refine gm rfl rfl<|gr rfl (ZD rfl rfl)<|gr rfl (ZD rfl rfl)<|Z0 (fun hks=>?_) (fun hks=>?_)
 ·refine Zt (ZU Z5 rfl rfl (fun b7=>?_))
  refine Zt (Zz 0 Z5 rfl rfl rfl rfl rfl rfl (by rfl) ?_)
  refine gas rfl rfl<|gA<|Zb<|Za<|gm rfl rfl<|gr rfl (rd_not rfl)<|gA<|Zl rfl<|Zv<|Ze<|Zb<|ZO [0,1,2,3] true 9 rfl<|Zc 0 rfl rfl ⟨[0,1,2,3],by decide,rfl⟩ (Zf (Zo rfl)) ?_
  refine Zc 1 rfl rfl ⟨[0,1,2,3],by decide,rfl⟩ (Zf (ZN rfl)) ?_
  refine Zc 2 rfl rfl ⟨[0,1,2,3],by decide,rfl⟩ (Zf (Zd rfl (VF _))) ?_
  refine Zc 3 rfl rfl ⟨[0,1,2,3],by decide,rfl⟩ (Zf (Zi Tryz.underlying50 rfl rfl (Yj hp hP.o (j:=1) rfl))) ?_
  refine Zc 4 rfl rfl ⟨[0,1,2,3],by decide,rfl⟩ (Zf (Zr Tryz.underlying23 rfl Yg rfl (by exact ZH 1 (off:=0) (k:=3) rfl rfl) rfl)) ?_
  refine Zc 5 rfl rfl ⟨[0,1,2,3],by decide,rfl⟩ (YE (vf:=[]) (vc:=[]) rfl rfl Tryz.call54 (fun w1 ho=>Zif hP.nd x hx0 w1) (by rintro _ _ ⟨h,_⟩; exact h)) ?_
  rw [hkN]
  refine Zc 6 rfl rfl ⟨[0,1,2,3],by decide,rfl⟩ (Zf (Vq rfl)) ?_
  refine Zc 7 rfl rfl ⟨[0,1,2,3],by decide,rfl⟩ (Zf (Zo rfl)) ?_
  refine ZK 8 rfl (.inr ⟨[0,1,2,3],by decide,rfl⟩) (Wk (rv:=(.pointer (some ⟨q.bs,0,none⟩))) (F:=182) rfl rfl (Znp _) Tryz.call182 ?_)
  refine (Yn [_,_,_,_] q.hl rfl rfl (vf:=[]) (vc:=[]) rfl rfl Tryz.call182 rfl (fun w how hc=>Znu q V n hqo _ w hc hn (keyN x) (by omega) [] (by simp) (by simp) none 0 (Zg3 _ _ _)) ?_)
  rintro v9 T9 hput
  refine Zc 9 rfl rfl ⟨[0,1,2,3],by decide,rfl⟩ (Zf (ZY rfl)) ?_
  refine ZP (.inr ⟨[0,1,2,3],by decide,rfl⟩) ?_
  refine Ze<|Zu<|ZW (.inl rfl) Tryz.results20 rfl (ZS (A:=[]) (B:=[_,_,_,_]) (T:=T9) [] 4 (by decide) (by decide) rfl rfl) ?_
  exact .inr ⟨hz,hqo,hx0,.inr ⟨hks,hput⟩⟩
 refine Zt (ZU Z5 rfl rfl (fun b7=>?_))
 refine Zt (Zz 0 Z5 rfl rfl rfl rfl rfl rfl (by rfl) ?_)
 refine gas rfl rfl<|gA<|Zb<|Za<|gm rfl rfl<|gr rfl (rd_not rfl)<|gA<|Zk rfl<|Zb<|Za<|gas rfl rfl<|gA<|Zu<|Zh<|ZW (.inl rfl) Tryz.results20 rfl (ZS (A:=[]) (B:=[_,_,_,_]) (T:=q.hl) [] 4 (by decide) (by decide) rfl rfl) ?_
 exact .inr ⟨hz,hqo,hx0,.inl ⟨by simpa using hks,rfl,rfl⟩⟩
theorem Zj8 (q:SS) (V:Ym) (n:Nat) (hq:q.Ok V n∨q.Stop) (S:List Nat) (w0:World) (hown:Own w0 S w0 q.hl) (hn:n<1000000) (s:Org) (bp:Nat) (hP:PsIn s bp q.bs w0 S) (x:Pis) (hkv:pnE s.ds.length x=0→∀ r,XJ V x=some r→RgOk s.ss.length s.cs.length r) (ss cs:List Int) (a1 a2:Option Addr) (c1 c2:Nat) (hl1:ss.length≤140737488355328) (hl2:cs.length≤140737488355328) (h1:OldSl w0 S a1 ss.length 1 (ss.map Xy)) (h2:OldSl w0 S a2 cs.length 1 (cs.map Xy)):Sp Tryz.prog 16 [.pointer (some ⟨bp,0,none⟩),Pis.val x,.agg #[.slice a1 ss.length c1,.slice a2 cs.length c2]] w0 S (PressR s q V n x ss cs):=by
 have hp:=hP.p
 have hns:=hP.ns
 have hnc:=hP.nc
 refine ZC Tryz.func16 rfl Tryz.ntmps16 rfl hown ?_
 simp only [ZV]
 refine Zb<|Za<|Zt (Z6 rfl rfl rfl (fun b4=>?_))
 refine Zt (Z6 rfl rfl rfl (fun b5=>?_))
 refine Zt (ZU Z5 rfl rfl (fun b6=>?_))
 refine gas rfl rfl<|gA<|Zb<|Zb<|Za<|gm rfl rfl<|Zt (ZJ rfl (vf:=[]) (vc:=[]) rfl rfl Tryz.call43 (fun w1 ho=>Zck bp true w1 (by have h9:=(hP.at ho).p 0 _ rfl; exact h9)) ?_)
 rintro _ _ ⟨rfl,rfl⟩
 refine gA<|Zl rfl<|Zv<|Ze<|Zb<|Zb<|Zdo [_,_,_] q.hl [0,1,2] true 9 rfl rfl<|Zc 0 rfl rfl (YL 0 rfl) (Zf (Zo rfl)) ?_
 refine Zc 1 rfl rfl (YL 0 rfl) (Zf (Zr Tryz.underlying23 rfl Yg rfl (by exact ZH 2 (off:=0) (k:=3) rfl rfl) rfl)) ?_
 refine Zc 2 rfl rfl (YL 0 rfl) (YE (vf:=[]) (vc:=[]) rfl rfl Tryz.call44 (fun w1 ho=>Ze9 s bp q.bs w1 (hP.at ho) x) (by rintro _ _ ⟨h,_⟩; exact h)) ?_
 refine Zc 3 rfl rfl (YL 0 rfl) (Zf (Zo rfl)) ?_
 refine Zc 4 rfl rfl (YL 0 rfl) (Zf (Zr Tryz.underlying26 rfl Z5 rfl (by exact ZH 1 (off:=0) (k:=2) rfl rfl) rfl)) ?_
 refine Zc 5 rfl rfl (YL 0 rfl) (YE (vf:=[]) (vc:=[]) rfl rfl Tryz.call45 (fun w1 ho=>VY s bp q.bs w1 (hP.at ho) ss cs a1 a2 c1 c2 hl1 hl2 (h1.at ho) (h2.at ho)) (by rintro _ _ ⟨h,_⟩; exact h)) ?_
 refine Zc 6 rfl rfl (YL 0 rfl) (Zf (Zo rfl)) ?_
 refine Zc 9 rfl rfl (YL 0 rfl) (Zf (Zo rfl)) ?_
 refine ZK 7 rfl (.inr (YL 0 rfl)) (Yn [_,_,_] q.hl rfl rfl (vf:=[]) (vc:=[]) rfl rfl Tryz.call46 rfl (fun w how hc=>Zfd q (Zpm hq) _ w hc s bp (hP.out (A:=[_,_,_]) how)) ?_)
 rintro _ _ ⟨rfl,rfl⟩
 refine Zc 8 rfl rfl (YL 0 rfl) (Zf (ZT rfl (fun _=>Zdy _ _ _))) ?_
 refine ZP (.inr (YL 0 rfl)) ?_
 refine Ze<|ZB<|ZZ (ι:=Nat) [(0,_),(4,_),(5,_),(6,_),(23,_)] (_::_::_::q.hl) (fun k=>k≤3∧∀ j,j<k→[pnE s.ds.length x,XB s.ss.length s.cs.length ss cs,q.err].getD j 0=0) (fun k Fr0=>((24,natV k)::Fr0)) (fun k Fr0=>Fr0) (fun k=>3 - k) 0 (⟨Nat.zero_le _,fun j h=>absurd h (Nat.not_lt_zero j)⟩) ⟨rfl,rfl,rfl,rfl,rfl,rfl,trivial⟩ (YL 0 rfl) ?_
 rintro k ⟨hk,hall⟩
 refine Zb<|Za<|gr rfl (ZX rfl rfl) (Zw (fun hlt=>?_) (fun hlt=>?_))
 ·refine gA<|Zb<|Zk rfl<|Zv<|Ze<|Zb<|ZB<|Zb<|Za<|gr rfl (V4 Tryz.underlying119 Tryz.underlying37 ty_37 rfl rfl (by omega) (arr3 _ _ _ (by omega))) ?_
  refine gas rfl rfl<|gA<|Zb<|Za<|gm rfl rfl<|gr rfl (Z4 rfl rfl) (Zw (fun hne=>?_) (fun hne=>?_))
  ·refine gA<|Zk rfl<|Zb<|YH 3 1<|YH 3 1<|Za<|gr rfl (ZT rfl (fun _=>Zey)) ?_
   refine gm rfl rfl<|Zt (Zz 2 Z5 rfl rfl rfl rfl rfl rfl (by rfl) ?_)
   refine gas rfl rfl<|gA<|Zu<|Zx<|Zh<|Zh<|Zx<|Zh<|WA (.inl rfl) Tryz.results16 (YC Tryz.underlying26 rfl Z5 rfl (by rfl) (ZH 2 (off:=0) (k:=2) rfl rfl)) (YU rfl) (ZS (A:=[_,_]) (B:=[_,_,_,_,_]) (T:=q.hl) [0,1] 5 (by decide) (by decide) rfl rfl) ?_
   have hz:=Zag hall hne
   exact ⟨_,([],[]),none,0,none,0,rfl,rfl,.inl ⟨by rw [hz]; exact hne,by rw [hz],rfl⟩⟩
  refine gA<|Zl rfl<|Zv<|ZI<|Ze<|Za<|gr rfl (by exact ZL (b:=1) rfl rfl (by omega)) ?_
  refine gm rfl rfl<|ZM<|Ze ?_
  exact ZR (k+1) ⟨⟨by omega,fun j hj=>by
   rcases Nat.lt_or_eq_of_le (Nat.le_of_lt_succ hj) with h | rfl
   ·exact hall j h
   ·omega⟩,by omega⟩ ⟨rfl,rfl,rfl,rfl,rfl,rfl,trivial⟩ (YL 0 rfl)
 refine gA<|Zb<|Zl rfl<|Z1<|Zs<|Zs<|ZE<|Ze<|Zb ?_
 have hz:=VT (l:=[pnE s.ds.length x,XB s.ss.length s.cs.length ss cs,q.err]) (fun j hj=>hall j (by simp at hj; omega))
 have hx0:pnE s.ds.length x=0:=hall 0 (by omega)
 have hr0:XB s.ss.length s.cs.length ss cs=0:=hall 1 (by omega)
 have hq0:q.err=0:=hall 2 (by omega)
 have hqo:q.Ok V n:=hq.resolve_right (fun h=>h.no hq0)
 obtain ⟨r,rfl,rfl,hr⟩:=Ze7 hr0
 rw [YA] at h1 h2
 rw [Wl] at h1 h2
 rw [YA,YA]
 have hkN:kyP x=((keyN x:Nat):Int):=(Xw hP.nd hx0).2.2.symm
 have hk9:=Xw hP.nd hx0
 have hrl1:=Vr hr hns
 have hrl2:=Vs hr hnc
 have hwo:=Za7 (s:=s) x hr
 refine Za<|gm rfl rfl<|gr rfl (Zr Tryz.underlying23 rfl Yg rfl (by exact ZH 2 (off:=0) (k:=3) rfl rfl) rfl) ?_
 refine Zt (Yn [_,_,_] q.hl rfl rfl (vf:=[]) (vc:=[]) rfl rfl Tryz.call47 rfl (fun w how hc=>Zb7 q V n hqo _ w hc s bp (hP.out (A:=[_,_,_]) how) x hx0) ?_)
 rintro _ _ ⟨kr,kc,kr2,kc2,rfl,rfl⟩
 refine gm rfl rfl<|gr rfl (ZD rfl rfl)<|gr rfl (ZD rfl rfl)<|Z0 (fun hks=>?_) (fun hks=>?_)
 ·obtain ⟨kp,hkp⟩:=Option.isSome_iff_exists.1 hks
  have hko:=hkv hx0 kp hkp
  have hkD:kD V x=kp:=by unfold kD; rw [hkp]; rfl
  rw [hkD]
  refine Zt (ZU Z5 rfl rfl (fun b10=>?_))
  refine Zt (Zz 0 Z5 rfl rfl rfl rfl rfl rfl (by rfl) ?_)
  refine gas rfl rfl<|gA<|Zb<|Zb<|Za<|gm rfl rfl<|gr rfl (rd_not rfl)<|gA<|Zl rfl<|Zv<|Ze<|Zb<|Za<|gm rfl rfl<|gr rfl (Zr Tryz.underlying23 rfl Yg rfl (by exact ZH 3 (off:=0) (k:=3) rfl rfl) rfl) ?_
  refine gr rfl (Zr Tryz.underlying26 rfl Z5 rfl (by exact ZH 0 (off:=0) (k:=2) rfl rfl) rfl) ?_
  refine gr rfl (Zr Tryz.underlying26 rfl Z5 rfl (by exact ZH 2 (off:=0) (k:=2) rfl rfl) rfl) ?_
  refine Zt (ZJ rfl (vf:=[]) (vc:=[]) rfl rfl Tryz.call48 (fun w1 ho=>Zig s bp q.bs w1 (hP.at ho) x kp r hko hr (rowA kr) (rowA kr2) a1 a2 kc kc2 c1 c2 (ho.rowSl 4 rfl) (ho.rowSl 5 rfl) (h1.at ho) (h2.at ho)) ?_)
  rintro _ _ ⟨rS,cS,rC,cC,rfl,rfl⟩
  refine Zt (Zz 3 Z5 rfl rfl rfl rfl rfl rfl (by rfl) ?_)
  refine gas rfl rfl<|gA<|Zu<|WA (.inl rfl) Tryz.results16 (YC Tryz.underlying26 rfl Z5 rfl (by rfl) (ZH 3 (off:=0) (k:=2) rfl rfl)) (YU rfl) (ZS (A:=[_,_]) (B:=[_,_,_,_,_,_,_,_]) (T:=q.hl) [0,1] 8 (by decide) (by decide) rfl rfl) ?_
  exact ⟨0,Xf s x kp r,rS,cS,rC,cC,rfl,rfl,.inr ⟨hz,hqo,hx0,r,rfl,rfl,hr,.inr ⟨kp,hkp,rfl,rfl⟩⟩⟩
 have hkn:XJ V x=none:=by simpa using hks
 refine Zt (ZU Z5 rfl rfl (fun b10=>?_))
 refine Zt (Zz 0 Z5 rfl rfl rfl rfl rfl rfl (by rfl) ?_)
 refine gas rfl rfl<|gA<|Zb<|Zb<|Za<|gm rfl rfl<|gr rfl (rd_not rfl)<|gA<|Zk rfl<|Zb<|YH 3 1<|YH 3 1<|Za<|gr rfl (ZT rfl (fun _=>Zey)) ?_
 refine Zt (Zz 3 Z5 rfl rfl rfl rfl rfl rfl (by rfl) ?_)
 refine gas rfl rfl<|gA<|Zu<|Zh<|WA (.inl rfl) Tryz.results16 (YC Tryz.underlying26 rfl Z5 rfl (by rfl) (ZH 3 (off:=0) (k:=2) rfl rfl)) (YU rfl) (ZS (A:=[_,_]) (B:=[_,_,_,_,_,_,_,_]) (T:=q.hl) [0,1] 8 (by decide) (by decide) rfl rfl) ?_
 exact ⟨4,([],[]),none,0,none,0,rfl,rfl,.inr ⟨hz,hqo,hx0,r,rfl,rfl,hr,.inl ⟨hkn,rfl,rfl⟩⟩⟩
namespace Ip
def SS.cap (q:SS):Nat:=10 * (q.f.b.length / 256 - 2)
theorem SS.Like.cap {q q2:SS} (h:q.Like q2):q2.cap=q.cap:=by unfold SS.cap; rw [h.len]
structure PSt (s:Org) (q:SS) (V:Ym) (n:Nat) (U:List Pis) (L:List (Pis × Rg)):Prop where
  ok:q.Ok V n
  pr:PR s.ds.length s.ss.length s.cs.length V U L
section
variable {s:Org} {q:SS} {V:Ym} {n:Nat} {U:List Pis} {L:List (Pis × Rg)}
theorem PSt.mlen (h:PSt s q V n U L):q.m.length=U.length+1:=by
 have hk:∀ k,k∈(plain q.m).map En.key↔V k≠none:=fun k=>by
  constructor
  ·intro hk
   obtain ⟨x,hx⟩:=Option.isSome_iff_exists.1 (Zd9 hk)
   rw [(h.ok.st.si.so k x hx).2.2]; simp
  ·intro hv
   cases e:YY k (plain q.m) with
   | none=>exact absurd (h.ok.st.si.no k e) hv
   | some y=>exact Zni e
 have:=h.pr.count h.ok.st.si.nd hk
 simpa [plain] using this
theorem PSt.full (h:PSt s q V n U L) {x:Pis} (hx:pnE s.ds.length x=0):Zj6 V (keyN x) (10 * (q.f.b.length / 256 - 2)) q.m.length↔Vt q.cap U x:=by
 unfold Zj6 Vt SS.cap
 rw [h.pr.v1 x hx,h.mlen]
theorem PSt.kept (h:PSt s q V n U L) {x:Pis} (hx:pnE s.ds.length x=0):XJ V x=Yx L x:=h.pr.kept hx
theorem PSt.rg (h:PSt s q V n U L) {x:Pis} (hx:pnE s.ds.length x=0) {r:Rg} (hk:XJ V x=some r):RgOk s.ss.length s.cs.length r:=by
 rw [h.kept hx,place_is h.pr.srt] at hk
 exact (h.pr.lok _ hk).2
theorem kept_rg {V:Ym} {x:Pis} {r:Rg} (h:XJ V x=some r):RgOk 80 24 r:=by
 rw [Zlr] at h
 split at h
 ·cases h
  exact ⟨W8 _ _,W8 _ _,Znt,Znt⟩
 ·cases h
theorem SS.Ok.mono {q:SS} {V:Ym} {n m:Nat} (h:q.Ok V n) (hm:n≤m):q.Ok V m:=⟨h.st,Nat.le_trans h.pr (Nat.mul_le_mul_left _ hm),Nat.le_trans h.er hm,Nat.le_trans h.num hm⟩
theorem PSt.mono (h:PSt s q V n U L) {m:Nat} (hm:n≤m):PSt s q V m U L:=⟨h.ok.mono hm,h.pr⟩
theorem SS.Torn.mono {q:SS} {V V2:Ym} {n m:Nat} (h:q.Torn n V V2) (hm:n≤m):q.Torn m V V2:=by
 obtain ⟨V',N,h1,h2⟩:=h.fi
 exact ⟨h.ok,h.dn,⟨V',N,Nat.le_trans h1 hm,h2⟩,h.sp,Nat.le_trans h.pr (Nat.mul_le_mul_left _ hm),Nat.le_trans h.er hm⟩
end
theorem Zee {w0 w:World} {S:List Nat} {A T:List HL} (ho:Own w0 S w (A++T)) {ad:Addr} {v:Value} (hc:w0.cell? ad=some v) (hS:ad.block ∉ S):w.cell? ad=some v∧ad.block ∉ T.filterMap HL.block:=by
 refine ⟨ho.cellOld hc hS,fun hb=>?_⟩
 obtain ⟨x,hx,hxb⟩:=List.mem_filterMap.1 hb
 rcases ho.place x (List.mem_append_right _ hx) _ hxb with h1 | h1
 ·exact hS h1
 ·have:=Zko hc
  omega
end Ip
open Ip
theorem Zqz (s:Org) (bp bs:Nat) (S:List Nat) (w0:World) (hP:PsIn s bp bs w0 S) (lv:Int) (gf:FuncId) (caps:List Value) (hcall:∀ args w,(callFunc gf args).run Tryz.prog w=.ok (.enter gf args) w) (I:Nat→List HL→Prop) (Er:Int→List HL→Prop) (hstep:∀ (i:Nat) (x:Pis) (L:List HL) (w:World),(YI s.ds.length lv)[i]? = some x→I i L→Own w0 S w L→Sp Tryz.prog gf (Pis.val x::caps) w (L.filterMap HL.block) (fun v L'=>(v=.int .i64 0∧I (i+1) L')∨∃ e:Int,e≠0∧v=.int .i64 e∧Er e L')) (L0:List HL) (hI0:I 0 L0) (hown:Own w0 S w0 L0):Sp Tryz.prog 56 [.pointer (some ⟨bp,0,none⟩),.int .i64 lv,.func (.func gf) ([]:List Value).toArray (caps:List Value).toArray] w0 S (fun v L=>(v=.int .i64 0∧I (YI s.ds.length lv).length L)∨∃ e:Int,e≠0∧v=.int .i64 e∧Er e L):=by
 have hp2:=hP.sp
 have hnd:=hP.nd
 refine ZC Tryz.func56 rfl Tryz.ntmps56 rfl hown ?_
 simp only [ZV]
 refine Zb<|Za<|gas rfl rfl<|gA<|Zb<|Zb<|Za<|gm rfl rfl<|gnc rfl rfl<|gr rfl (Zd rfl (Zat _))<|gr rfl (Zd rfl (YS _))<|gr rfl (Zi Tryz.underlying40 rfl rfl (Yj hp2 hP.o (j:=0) rfl))<|gr rfl (ZA Tryz.underlying40 rfl)<|gr rfl (by exact ZL (a:=1) rfl rfl (by omega)) ?_
 refine gm rfl rfl<|gA<|ZB<|ZZ (ι:=Nat × List HL) [(1,_),(2,_),(17,_)] [] (fun q=>q.1≤s.ds.length+1∧I (J1 q.1 0) q.2) (fun q Fr0=>((18,natV q.1)::Fr0)) (fun q Fr0=>(Fr0++q.2)) (fun q=>s.ds.length+1 - q.1) (0,L0) (⟨Nat.zero_le _,hI0⟩) ⟨rfl,rfl,rfl,rfl,trivial⟩ (ZS (A:=[]) (B:=[]) (T:=L0) [] 0 (by decide) (by decide) rfl rfl) ?_
 rintro ⟨d,L1⟩ ⟨hd,hI1⟩
 simp only at hd hI1 ⊢
 refine Zb<|Za<|gr rfl (ZX rfl rfl) (Zw (fun h19=>?_) (fun h19=>?_))
 ·refine gA<|Zb<|Zk rfl<|Zv<|Ze<|Zb<|ZB<|Zb<|Za<|gm rfl rfl<|gas rfl rfl<|gA<|Zb<|Za<|gas rfl rfl<|gA<|Zb<|Zb<|Za<|gm rfl rfl<|gr rfl (Z8 rfl rfl) (Zw (fun h22=>?_) (fun h22=>?_))
  ·have hd0:d=0:=by omega
   have hmd:XV d=20:=if_pos hd0
   refine gA<|Zk rfl<|Za<|gas rfl rfl<|gA<|Zb<|Za<|gm rfl rfl<|gm rfl rfl<|gA<|ZB<|ZZ (ι:=Nat × List HL) [(1,_),(2,_),(7,_),(17,_),(18,_),(23,_)] [] (fun q=>q.1≤XV d∧I (J1 d q.1) q.2) (fun q Fr0=>((24,natV q.1)::Fr0)) (fun q Fr0=>(Fr0++q.2)) (fun q=>XV d - q.1) (0,L1) (⟨Nat.zero_le _,hI1⟩) ⟨rfl,rfl,rfl,rfl,rfl,rfl,rfl,trivial⟩ (ZS (A:=[]) (B:=[]) (T:=L1) [] 0 (by decide) (by decide) rfl rfl) ?_
   rintro ⟨k,L2⟩ ⟨hk,hI2⟩
   simp only at hk hI2 ⊢
   refine Zb<|Za<|gr rfl (ZX rfl rfl) (Zw (fun h25=>?_) (fun h25=>?_))
   ·refine gA<|Zb<|Zk rfl<|Zv<|Ze<|Zb<|ZB<|Zb<|Za<|gm rfl rfl<|gas rfl rfl<|gA<|Zb<|Za<|gm rfl rfl<|gm rfl rfl<|gm rfl rfl<|gr rfl (WX rfl rfl (by omega) (by omega)) ?_
    refine gm rfl rfl<|gr rfl (XR rfl rfl (by omega) (by omega)) ?_
    refine gr rfl (ZT rfl (fun _=>VP _ _ _)) ?_
    refine Zt (Yn [] L2 rfl rfl (vf:=[]) (vc:=caps) rfl rfl hcall rfl (fun w how hc=>hstep _ ⟨lv,_,_⟩ L2 w (Zgw (by omega) (by omega)) hI2 how) ?_)
    rintro v9 L9 (⟨rfl,hI9⟩ | ⟨e9,he9,rfl,hE9⟩)
    ·refine gas rfl rfl<|gA<|Zb<|Za<|gm rfl rfl<|gr rfl (Z4 rfl rfl) (Zw (fun h36=>?_) (fun h36=>?_))
     ·exact absurd rfl h36
     refine gA<|Zl rfl<|Zv<|ZI<|Ze<|Za<|gr rfl (by exact ZL (b:=1) rfl rfl (by omega)) ?_
     refine gm rfl rfl<|ZM<|Ze ?_
     exact ZR ((k+1,L9)) ⟨⟨by simp only; omega,by rw [Zfe]; exact hI9⟩,by simp only; omega⟩ ⟨rfl,rfl,rfl,rfl,rfl,rfl,rfl,trivial⟩ (ZS (A:=[]) (B:=[]) (T:=L9) [] 0 (by decide) (by decide) rfl rfl)
    refine gas rfl rfl<|gA<|Zb<|Za<|gm rfl rfl<|gr rfl (Z4 rfl rfl) (Zw (fun h36=>?_) (fun h36=>?_))
    ·refine gA<|Zk rfl<|Zb<|Za<|gm rfl rfl<|gas rfl rfl<|gA<|Zu<|Zx<|Zh<|Zh<|Zx<|Zx<|Zh<|Zh<|Zx<|Zh<|ZW (.inl rfl) Tryz.results56 rfl (ZS (A:=[]) (B:=[]) (T:=L9) [] 0 (by decide) (by decide) rfl rfl) ?_
     exact .inr ⟨e9,he9,rfl,hE9⟩
    exact absurd he9 h36
   have hk9:k=XV d:=by omega
   refine gA<|Zb<|Zl rfl<|Z1<|Zs<|Zs<|ZE<|ZI<|Ze<|Za<|gr rfl (by exact ZL (b:=1) rfl rfl (by omega)) ?_
   refine gm rfl rfl<|ZM<|Ze ?_
   exact ZR ((d+1,L2)) ⟨⟨by simp only; omega,by rw [← Zff,← hk9]; exact hI2⟩,by simp only; omega⟩ ⟨rfl,rfl,rfl,rfl,trivial⟩ (ZS (A:=[]) (B:=[]) (T:=L2) [] 0 (by decide) (by decide) rfl rfl)
  have hmd:XV d=8:=if_neg (by omega)
  refine gA<|Zl rfl<|Zv<|Ze<|Zb<|Za<|gm rfl rfl<|gm rfl rfl<|gA<|ZB<|ZZ (ι:=Nat × List HL) [(1,_),(2,_),(7,_),(17,_),(18,_),(23,_)] [] (fun q=>q.1≤XV d∧I (J1 d q.1) q.2) (fun q Fr0=>((24,natV q.1)::Fr0)) (fun q Fr0=>(Fr0++q.2)) (fun q=>XV d - q.1) (0,L1) (⟨Nat.zero_le _,hI1⟩) ⟨rfl,rfl,rfl,rfl,rfl,rfl,rfl,trivial⟩ (ZS (A:=[]) (B:=[]) (T:=L1) [] 0 (by decide) (by decide) rfl rfl) ?_
  rintro ⟨k,L2⟩ ⟨hk,hI2⟩
  simp only at hk hI2 ⊢
  refine Zb<|Za<|gr rfl (ZX rfl rfl) (Zw (fun h25=>?_) (fun h25=>?_))
  ·refine gA<|Zb<|Zk rfl<|Zv<|Ze<|Zb<|ZB<|Zb<|Za<|gm rfl rfl<|gas rfl rfl<|gA<|Zb<|Za<|gm rfl rfl<|gm rfl rfl<|gm rfl rfl<|gr rfl (WX rfl rfl (by omega) (by omega)) ?_
   refine gm rfl rfl<|gr rfl (XR rfl rfl (by omega) (by omega)) ?_
   refine gr rfl (ZT rfl (fun _=>VP _ _ _)) ?_
   refine Zt (Yn [] L2 rfl rfl (vf:=[]) (vc:=caps) rfl rfl hcall rfl (fun w how hc=>hstep _ ⟨lv,_,_⟩ L2 w (Zgw (by omega) (by omega)) hI2 how) ?_)
   rintro v9 L9 (⟨rfl,hI9⟩ | ⟨e9,he9,rfl,hE9⟩)
   ·refine gas rfl rfl<|gA<|Zb<|Za<|gm rfl rfl<|gr rfl (Z4 rfl rfl) (Zw (fun h36=>?_) (fun h36=>?_))
    ·exact absurd rfl h36
    refine gA<|Zl rfl<|Zv<|ZI<|Ze<|Za<|gr rfl (by exact ZL (b:=1) rfl rfl (by omega)) ?_
    refine gm rfl rfl<|ZM<|Ze ?_
    exact ZR ((k+1,L9)) ⟨⟨by simp only; omega,by rw [Zfe]; exact hI9⟩,by simp only; omega⟩ ⟨rfl,rfl,rfl,rfl,rfl,rfl,rfl,trivial⟩ (ZS (A:=[]) (B:=[]) (T:=L9) [] 0 (by decide) (by decide) rfl rfl)
   refine gas rfl rfl<|gA<|Zb<|Za<|gm rfl rfl<|gr rfl (Z4 rfl rfl) (Zw (fun h36=>?_) (fun h36=>?_))
   ·refine gA<|Zk rfl<|Zb<|Za<|gm rfl rfl<|gas rfl rfl<|gA<|Zu<|Zx<|Zh<|Zh<|Zx<|Zx<|Zh<|Zh<|Zx<|Zh<|ZW (.inl rfl) Tryz.results56 rfl (ZS (A:=[]) (B:=[]) (T:=L9) [] 0 (by decide) (by decide) rfl rfl) ?_
    exact .inr ⟨e9,he9,rfl,hE9⟩
   exact absurd he9 h36
  have hk9:k=XV d:=by omega
  refine gA<|Zb<|Zl rfl<|Z1<|Zs<|Zs<|ZE<|ZI<|Ze<|Za<|gr rfl (by exact ZL (b:=1) rfl rfl (by omega)) ?_
  refine gm rfl rfl<|ZM<|Ze ?_
  exact ZR ((d+1,L2)) ⟨⟨by simp only; omega,by rw [← Zff,← hk9]; exact hI2⟩,by simp only; omega⟩ ⟨rfl,rfl,rfl,rfl,trivial⟩ (ZS (A:=[]) (B:=[]) (T:=L2) [] 0 (by decide) (by decide) rfl rfl)
 refine gA<|Zb<|Zl rfl<|Z1<|Zs<|Zs<|ZE<|Ze<|Zb<|Za<|gas rfl rfl<|gA<|Zu<|ZW (.inl rfl) Tryz.results56 rfl (ZS (A:=[]) (B:=[]) (T:=L1) [] 0 (by decide) (by decide) rfl rfl) ?_
 exact .inl ⟨rfl,by rw [← Znx lv,← show d=s.ds.length+1 by omega]; exact hI1⟩
namespace Ip
def Zef (q:SS) (V:Ym) (n:Nat) (x y:Pis):Value→List HL→Prop:=fun v L=>match XJ V x with
  | some r=>PutR q V n (keyN y) (packR r.1 r.2) v L
  | none=>if (XJ V y).isSome=true then PutR q V n (keyN y) [] v L else v=.int .i64 0∧L=q.hl
end Ip
open Ip
theorem copy1_ok (q:SS) (V:Ym) (n:Nat) (hq:q.Ok V n) (S:List Nat) (w0:World) (hown:Own w0 S w0 q.hl) (s:Org) (bp:Nat) (hP:PsIn s bp q.bs w0 S) (hn:n<1000000) (x:Pis) (to:Int) (hx:pnE s.ds.length x=0) (hy:pnE s.ds.length (atL x to)=0) (b1 b2:Nat) (hc1:w0.cell? ⟨b1,0,none⟩=some (.pointer (some ⟨bp,0,none⟩))) (hs1:b1 ∉ S) (hc2:w0.cell? ⟨b2,0,none⟩=some (.int .i64 to)) (hs2:b2 ∉ S):Sp Tryz.prog 57 [Pis.val x,.pointer (some ⟨b1,0,none⟩),.pointer (some ⟨b2,0,none⟩)] w0 S (Zef q V n x (atL x to)):=by
 have hp:=hP.p
 have hkN:kyP (atL x to)=((keyN (atL x to):Nat):Int):=(Xw hP.nd hy).2.2.symm
 have hk9:=Xw hP.nd hy
 refine ZC Tryz.func57 rfl Tryz.ntmps57 rfl hown ?_
 simp only [ZV]
 refine Zb<|Za<|Zt (Z6 rfl rfl rfl (fun b3=>?_))
 refine gas rfl rfl<|gA<|Zb<|Za<|gr rfl (Zi Tryz.underlying36 rfl rfl (JR hc1 hs1))<|gr rfl (Zr Tryz.underlying23 rfl Yg rfl (by exact ZH 0 (off:=0) (k:=3) rfl rfl) rfl) ?_
 refine Zt (Yn [_] q.hl rfl rfl (vf:=[]) (vc:=[]) rfl rfl Tryz.call47 rfl (fun w how hc=>Zb7 q V n hq _ w hc s bp (hP.out (A:=[_]) how) x hx) ?_)
 rintro _ _ ⟨kr12,kc12,lr12,lc12,rfl,rfl⟩
 refine gm rfl rfl<|gr rfl (ZD rfl rfl)<|gr rfl (ZD rfl rfl)<|Zt (ZU Z5 rfl rfl (fun b5=>?_))
 refine Zt (Zz 0 Z5 rfl rfl rfl rfl rfl rfl (by rfl) ?_)
 refine gas rfl rfl<|gA<|Zb<|Za<|gr rfl (Zi Tryz.underlying3 rfl rfl (JR hc2 hs2))<|gr rfl (Zd rfl (X9 _))<|Zt (Yc 1 Y7 rfl rfl rfl rfl rfl (by rfl) (by rfl) ?_)
 refine gA<|Zb<|Za<|gr rfl (Zi Tryz.underlying36 rfl rfl (JR hc1 hs1))<|gr rfl (Zr Tryz.underlying23 rfl Yg rfl (by exact ZH 1 (off:=0) (k:=3) rfl rfl) rfl) ?_
 refine Zt (Yn [_,_,_,_] q.hl rfl rfl (vf:=[]) (vc:=[]) rfl rfl Tryz.call47 rfl (fun w how hc=>Zb7 q V n hq _ w hc s bp (hP.out (A:=[_,_,_,_]) how) (atL x to) hy) ?_)
 rintro _ _ ⟨kr20,kc20,lr20,lc20,rfl,rfl⟩
 refine gm rfl rfl<|gr rfl (ZD rfl rfl)<|gr rfl (ZD rfl rfl)<|Zt (ZU Z5 rfl rfl (fun b7=>?_))
 refine Zt (Zz 0 Z5 rfl rfl rfl rfl rfl rfl (by rfl) ?_)
 refine gas rfl rfl<|gA<|Zb<|ZB<|Zb<|Za<|gm rfl rfl<|gas rfl rfl<|Z0 (fun h23=>?_) (fun h23=>?_)
 ·obtain ⟨r,hkr⟩:=Option.isSome_iff_exists.1 h23
  have hkD:kD V x=r:=by unfold kD; rw [hkr]; rfl
  rw [hkD]
  have hr:=kept_rg hkr
  refine gA<|Zk rfl<|Zb<|ZO [0,1,2,3,4,5,6] true 11 rfl<|Zc 0 rfl rfl ⟨[0,1,2,3,4,5,6],by decide,rfl⟩ (Zf (Zi Tryz.underlying36 rfl rfl (JR hc1 hs1))) ?_
  refine Zc 1 rfl rfl ⟨[0,1,2,3,4,5,6],by decide,rfl⟩ (Zf (ZN rfl)) ?_
  refine Zc 2 rfl rfl ⟨[0,1,2,3,4,5,6],by decide,rfl⟩ (Zf (Zd rfl (VF _))) ?_
  refine Zc 3 rfl rfl ⟨[0,1,2,3,4,5,6],by decide,rfl⟩ (Zf (Zi Tryz.underlying50 rfl rfl (Yj hp hP.o (j:=1) rfl))) ?_
  refine Zc 4 rfl rfl ⟨[0,1,2,3,4,5,6],by decide,rfl⟩ (Zf (Zr Tryz.underlying23 rfl Yg rfl (by exact ZH 2 (off:=0) (k:=3) rfl rfl) rfl)) ?_
  refine Zc 5 rfl rfl ⟨[0,1,2,3,4,5,6],by decide,rfl⟩ (YE (vf:=[]) (vc:=[]) rfl rfl Tryz.call54 (fun w1 ho=>Zif hP.nd (atL x to) hy w1) (by rintro _ _ ⟨h,_⟩; exact h)) ?_
  rw [hkN]
  refine Zc 6 rfl rfl ⟨[0,1,2,3,4,5,6],by decide,rfl⟩ (Zf (Zr Tryz.underlying26 rfl Z5 rfl (by exact ZH 1 (off:=0) (k:=2) rfl rfl) rfl)) ?_
  refine Zc 8 rfl rfl ⟨[0,1,2,3,4,5,6],by decide,rfl⟩ (Zf (Vq rfl)) ?_
  refine Zc 9 rfl rfl ⟨[0,1,2,3,4,5,6],by decide,rfl⟩ (Zf (Zo rfl)) ?_
  refine ZK 7 rfl (.inr ⟨[0,1,2,3,4,5,6],by decide,rfl⟩) (ZJ rfl (vf:=[]) (vc:=[]) rfl rfl Tryz.call55 (fun w1 ho=>Znw r 80 24 hr (Nat.le_refl _) (Nat.le_refl _) _ _ _ _ w1 (ho.rowSl 3 rfl) (ho.rowSl 4 rfl)) ?_)
  rintro _ _ ⟨b9,rfl,rfl⟩
  refine ZK 10 rfl (.inr ⟨[1,2,3,4,5,6,7],by decide,rfl⟩) (Wk (rv:=(.pointer (some ⟨q.bs,0,none⟩))) (F:=182) rfl rfl (Znp _) Tryz.call182 ?_)
  refine (Yn [_,_,_,_,_,_,_,_] q.hl rfl rfl (vf:=[]) (vc:=[]) rfl rfl Tryz.call182 rfl (fun w how hc=>Znu q V n hq _ w hc hn (keyN (atL x to)) (by omega) (packR r.1 r.2) (Zib _ _) (by rw [Je]; decide) _ _ (how.rowSlT (A:=[_,_,_,_,_,_,_,_]) 0 rfl)) ?_)
  rintro v9 T9 hput
  refine Zc 11 rfl rfl ⟨[1,2,3,4,5,6,7],by decide,rfl⟩ (Zf (ZY rfl)) ?_
  refine ZP (.inr ⟨[1,2,3,4,5,6,7],by decide,rfl⟩) ?_
  refine Ze<|Zu<|Zx<|Zh<|ZW (.inl rfl) Tryz.results57 rfl (ZS (A:=[]) (B:=[_,_,_,_,_,_,_,_]) (T:=T9) [] 8 (by decide) (by decide) rfl rfl) ?_
  show Zef q V n x (atL x to) _ _
  unfold Zef
  rw [hkr]
  exact hput
 have hkn:XJ V x=none:=by simpa using h23
 refine gA<|Zl rfl<|Zb<|Za<|gm rfl rfl<|gas rfl rfl<|Z0 (fun h36=>?_) (fun h36=>?_)
 ·refine gA<|Zk rfl<|Zb<|ZO [0,1,2,3,4,5,6] true 9 rfl<|Zc 0 rfl rfl ⟨[0,1,2,3,4,5,6],by decide,rfl⟩ (Zf (Zi Tryz.underlying36 rfl rfl (JR hc1 hs1))) ?_
  refine Zc 1 rfl rfl ⟨[0,1,2,3,4,5,6],by decide,rfl⟩ (Zf (ZN rfl)) ?_
  refine Zc 2 rfl rfl ⟨[0,1,2,3,4,5,6],by decide,rfl⟩ (Zf (Zd rfl (VF _))) ?_
  refine Zc 3 rfl rfl ⟨[0,1,2,3,4,5,6],by decide,rfl⟩ (Zf (Zi Tryz.underlying50 rfl rfl (Yj hp hP.o (j:=1) rfl))) ?_
  refine Zc 4 rfl rfl ⟨[0,1,2,3,4,5,6],by decide,rfl⟩ (Zf (Zr Tryz.underlying23 rfl Yg rfl (by exact ZH 2 (off:=0) (k:=3) rfl rfl) rfl)) ?_
  refine Zc 5 rfl rfl ⟨[0,1,2,3,4,5,6],by decide,rfl⟩ (YE (vf:=[]) (vc:=[]) rfl rfl Tryz.call54 (fun w1 ho=>Zif hP.nd (atL x to) hy w1) (by rintro _ _ ⟨h,_⟩; exact h)) ?_
  rw [hkN]
  refine Zc 6 rfl rfl ⟨[0,1,2,3,4,5,6],by decide,rfl⟩ (Zf (Vq rfl)) ?_
  refine Zc 7 rfl rfl ⟨[0,1,2,3,4,5,6],by decide,rfl⟩ (Zf (Zo rfl)) ?_
  refine ZK 8 rfl (.inr ⟨[0,1,2,3,4,5,6],by decide,rfl⟩) (Wk (rv:=(.pointer (some ⟨q.bs,0,none⟩))) (F:=182) rfl rfl (Znp _) Tryz.call182 ?_)
  refine (Yn [_,_,_,_,_,_,_] q.hl rfl rfl (vf:=[]) (vc:=[]) rfl rfl Tryz.call182 rfl (fun w how hc=>Znu q V n hq _ w hc hn (keyN (atL x to)) (by omega) [] (by simp) (by simp) none 0 (Zg3 _ _ _)) ?_)
  rintro v9 T9 hput
  refine Zc 9 rfl rfl ⟨[0,1,2,3,4,5,6],by decide,rfl⟩ (Zf (ZY rfl)) ?_
  refine ZP (.inr ⟨[0,1,2,3,4,5,6],by decide,rfl⟩) ?_
  refine Ze<|Zu<|Zx<|Zh<|ZW (.inl rfl) Tryz.results57 rfl (ZS (A:=[]) (B:=[_,_,_,_,_,_,_]) (T:=T9) [] 7 (by decide) (by decide) rfl rfl) ?_
  show Zef q V n x (atL x to) _ _
  unfold Zef
  rw [hkn]
  simp only
  rw [if_pos h36]
  exact hput
 refine gA<|Zl rfl<|Zv<|ZI<|Ze<|Zb<|Za<|gas rfl rfl<|gA<|Zu<|ZW (.inl rfl) Tryz.results57 rfl (ZS (A:=[]) (B:=[_,_,_,_,_,_,_]) (T:=q.hl) [] 7 (by decide) (by decide) rfl rfl) ?_
 show Zef q V n x (atL x to) _ _
 unfold Zef
 rw [hkn]
 simp only
 rw [if_neg (by rw [h36]; decide)]
 exact ⟨trivial,rfl⟩
namespace Ip
def Zny (s:Org) (q:SS) (n:Nat) (frm to:Int) (s0:RS) (i:Nat) (T:List HL):Prop :=
  ∃ (q2:SS) (V2:Ym) (s2:RS),T=q2.hl∧q.Like q2∧PSt s q2 V2 (n+i) s2.1 s2.2∧Y2 q.cap to ((YI s.ds.length frm).take i) s0=(s2,0)
def CopyE (s:Org) (q:SS) (n:Nat) (frm to:Int) (s0:RS) (e:Int) (T:List HL):Prop :=
  (e=5∧∃ (q2:SS) (V2:Ym) (s2:RS),T=q2.hl∧q.Like q2∧PSt s q2 V2 (n+100) s2.1 s2.2∧Y2 q.cap to (YI s.ds.length frm) s0=(s2,5)) ∨
  (e=9∧q.f.left≠-1∧∃ (i:Nat) (q2:SS) (V1 V2:Ym) (s1 s2:RS),i<(YI s.ds.length frm).length∧T=q2.hl∧q.Like q2∧q2.Torn (n+100) V1 V2∧PR s.ds.length s.ss.length s.cs.length V1 s1.1 s1.2∧PR s.ds.length s.ss.length s.cs.length V2 s2.1 s2.2∧Y2 q.cap to ((YI s.ds.length frm).take i) s0=(s1,0)∧Y2 q.cap to ((YI s.ds.length frm).take (i+1)) s0=(s2,0))
theorem PSt.used {s:Org} {q:SS} {V:Ym} {n:Nat} {U:List Pis} {L:List (Pis × Rg)} (h:PSt s q V n U L) {x:Pis} (hx:pnE s.ds.length x=0) (hk:(XJ V x).isSome=true):x∈U∧V (keyN x)≠none:=by
 have hv:V (keyN x)≠none:=fun e=>by
  unfold XJ at hk
  rw [e] at hk; cases hk
 exact ⟨Classical.byContradiction fun hn=>hv ((h.pr.v1 x hx).2 hn),hv⟩
theorem Zsf {s:Org} {q q2:SS} {n:Nat} {frm to:Int} {s0 s2:RS} {i:Nat} {V2:Ym} {x:Pis} (hget:(YI s.ds.length frm)[i]? = some x) (hi:i<100) (h1:1≤frm) (h8:frm≤8) (t1:1≤to) (t8:to≤8)
    (hlk:q.Like q2) (hst:PSt s q2 V2 (n+i) s2.1 s2.2) (hcf:Y2 q.cap to ((YI s.ds.length frm).take i) s0=(s2,0)) {v:Value} {T:List HL} (hc:Zef q2 V2 (n+i) x (atL x to) v T) :
    (v=.int .i64 0∧Zny s q n frm to s0 (i+1) T)∨∃ e:Int,e≠0∧v=.int .i64 e∧CopyE s q n frm to s0 e T:=by
  have hx:=((Jv h1 h8).1 (List.mem_of_getElem? hget)).2
  have hy:=pn_at hx t1 t8
  have hil:i<(YI s.ds.length frm).length:=(List.getElem?_eq_some_iff.1 hget).1
  have htk:=Zpn (room:=q.cap) (to:=to) (s:=s0) hget (by rw [hcf])
  rw [hcf] at htk
  unfold Zef at hc
  have hkx:=hst.kept hx
  cases hk:XJ V2 x with
  | some r =>
    rw [hk] at hc
    simp only at hc
    have hr:=hst.rg hx hk
    have hpl:Yx s2.2 x=some r:=by rw [← hkx,hk]
    have hcs:Y4 q.cap to s2 x=if Vt q.cap s2.1 (atL x to) then (s2,5) else ((Xc s2.1 (atL x to),VS s2.2 (atL x to) r),0):=by
      unfold Y4
      rw [hpl]
    rw [show Y4 q.cap to (s2,(0:Int)).1 x=Y4 q.cap to s2 x from rfl,hcs] at htk
    have hfu:Zj6 V2 (keyN (atL x to)) (10 * (q2.f.b.length / 256 - 2)) q2.m.length↔Vt q.cap s2.1 (atL x to):=by rw [hst.full hy,hlk.cap]
    rcases hc with ⟨hf,rfl,rfl⟩ | ⟨hf,q3,rfl,hq3,hl3,rfl⟩ | ⟨hf,q3,rfl,hlf,hq3,hl3,rfl⟩
    · rw [if_pos (hfu.1 hf)] at htk
      exact .inr ⟨5,by decide,rfl,.inl ⟨rfl,q2,V2,s2,rfl,hlk,hst.mono (by omega),by rw [Zpo (i:=i+1) (by rw [htk]; show (5:Int)≠0; decide),htk]⟩⟩
    · rw [if_neg (fun h=>hf (hfu.2 h))] at htk
      exact .inl ⟨rfl,q3,_,(Xc s2.1 (atL x to),VS s2.2 (atL x to) r),rfl,hlk.trans hl3,⟨hq3,hst.pr.set hy hr (q2.num+1)⟩,htk⟩
    · rw [if_neg (fun h=>hf (hfu.2 h))] at htk
      exact .inr ⟨9,by decide,rfl,.inr ⟨rfl,fun h=>hlf (hlk.no h),i,q3,V2,_,s2,(Xc s2.1 (atL x to),VS s2.2 (atL x to) r),hil,rfl,hlk.trans hl3,hq3.mono (by omega),hst.pr,hst.pr.set hy hr (q2.num+1),hcf,htk⟩⟩
  | none =>
    rw [hk] at hc
    simp only at hc
    have hpl:Yx s2.2 x=none:=by rw [← hkx,hk]
    have hcs:Y4 q.cap to s2 x=((s2.1,forgetR s2.2 (atL x to)),0):=by
      unfold Y4
      rw [hpl]
    rw [show Y4 q.cap to (s2,(0:Int)).1 x=Y4 q.cap to s2 x from rfl,hcs] at htk
    by_cases hy2:(XJ V2 (atL x to)).isSome=true
    · rw [if_pos hy2] at hc
      obtain ⟨hU,hv⟩:=hst.used hy hy2
      rcases hc with ⟨hf,_⟩ | ⟨hf,q3,rfl,hq3,hl3,rfl⟩ | ⟨hf,q3,rfl,hlf,hq3,hl3,rfl⟩
      · exact absurd hf.1 hv
      · exact .inl ⟨rfl,q3,_,(s2.1,forgetR s2.2 (atL x to)),rfl,hlk.trans hl3,⟨hq3,hst.pr.clear hy hU (q2.num+1)⟩,htk⟩
      · exact .inr ⟨9,by decide,rfl,.inr ⟨rfl,fun h=>hlf (hlk.no h),i,q3,V2,_,s2,(s2.1,forgetR s2.2 (atL x to)),hil,rfl,hlk.trans hl3,hq3.mono (by omega),hst.pr,hst.pr.clear hy hU (q2.num+1),hcf,htk⟩⟩
    · rw [if_neg hy2] at hc
      obtain ⟨rfl,rfl⟩:=hc
      have hpy:Yx s2.2 (atL x to)=none:=by
        rw [← hst.kept hy]
        simpa using hy2
      rw [Zr3 hst.pr.srt hpy] at htk
      exact .inl ⟨rfl,q2,V2,s2,rfl,hlk,hst.mono (by omega),htk⟩
theorem copy_hs {s:Org} {q:SS} {n:Nat} {frm to:Int} {s0:RS} {bp b1 b2:Nat} {w:World} {S:List Nat} (hn:n+100<1000000) (h1:1≤frm) (h8:frm≤8) (t1:1≤to) (t8:to≤8) (hP:PsIn s bp q.bs w S)
    (hc1:w.cell? ⟨b1,0,none⟩=some (.pointer (some ⟨bp,0,none⟩))) (hs1:b1 ∉ S) (hc2:w.cell? ⟨b2,0,none⟩=some (.int .i64 to)) (hs2:b2 ∉ S) (i:Nat) (x:Pis) (L:List HL) (w2:World) (hget:(YI s.ds.length frm)[i]? = some x) (hI:Zny s q n frm to s0 i L) (ho:Own w S w2 L) :
    Sp Tryz.prog 57 (Pis.val x::[.pointer (some ⟨b1,0,none⟩),.pointer (some ⟨b2,0,none⟩)]) w2 (L.filterMap HL.block) (fun v L'=>(v=.int .i64 0∧Zny s q n frm to s0 (i+1) L')∨∃ e:Int,e≠0∧v=.int .i64 e∧CopyE s q n frm to s0 e L'):=by
  obtain ⟨q2,V2,s2,rfl,hlk,hst,hcf⟩:=hI
  have hil:i<(YI s.ds.length frm).length:=(List.getElem?_eq_some_iff.1 hget).1
  rw [Ww] at hil
  have hnd:=hP.nd
  have hx:=((Jv h1 h8).1 (List.mem_of_getElem? hget)).2
  have hP2:=hP.out (A:=[]) ho
  rw [← hlk.bs] at hP2
  obtain ⟨e1,f1⟩:=Zee (A:=[]) ho hc1 hs1
  obtain ⟨e2,f2⟩:=Zee (A:=[]) ho hc2 hs2
  exact (copy1_ok q2 V2 (n+i) hst.ok _ w2 ho.inBlocks s bp hP2 (by omega) x to hx (pn_at hx t1 t8) b1 b2 e1 f1 e2 f2).mono fun v L' hc=>Zsf hget (by omega) h1 h8 t1 t8 hlk hst hcf hc
def CopyR (s:Org) (q:SS) (n:Nat) (frm to:Int) (s0:RS):Value→List HL→Prop:=fun v T =>
  ((frm<1∨8<frm∨to<1∨8<to)∧v=.int .i64 7∧T=q.hl) ∨
  ((1≤frm∧frm≤8∧1≤to∧to≤8)∧((q.err≠0∧v=.int .i64 q.err∧T=q.hl)∨(q.err=0∧frm=to∧v=.int .i64 0∧T=q.hl) ∨
    (q.err=0∧frm≠to∧((v=.int .i64 0∧Zny s q n frm to s0 (YI s.ds.length frm).length T)∨∃ e:Int,e≠0∧v=.int .i64 e∧CopyE s q n frm to s0 e T))))
end Ip
open Ip
theorem Copy_okP (q:SS) (V:Ym) (n:Nat) (s:Org) (s0:RS) (hq:PSt s q V n s0.1 s0.2∨q.Stop) (S:List Nat) (w0:World) (hown:Own w0 S w0 q.hl) (hn:n+100<1000000) (bp:Nat) (hP:PsIn s bp q.bs w0 S) (frm to:Int):Sp Tryz.prog 21 [.pointer (some ⟨bp,0,none⟩),.int .i64 frm,.int .i64 to] w0 S (CopyR s q n frm to s0):=by
 refine ZC Tryz.func21 rfl Tryz.ntmps21 rfl hown ?_
 simp only [ZV]
 refine Zb<|Za<|Zt (Z6 rfl rfl rfl (fun b3=>?_))
 refine Zt (Z6 rfl rfl rfl (fun b5=>?_))
 refine gas rfl rfl<|gA<|Zb<|ZB<|Zb<|Za<|gr rfl (Zi Tryz.underlying36 rfl rfl (by exact Zp 1 rfl rfl)) ?_
 refine Zt (ZJ rfl (vf:=[]) (vc:=[]) rfl rfl Tryz.call43 (fun w1 ho=>Zck bp true w1 (by have h9:=(hP.at ho).p 0 _ rfl; exact h9)) ?_)
 rintro _ _ ⟨rfl,rfl⟩
 refine gas rfl rfl<|gA<|Zl rfl<|Zb<|Za<|gm rfl rfl<|gr rfl (ZX rfl rfl) (Zw (fun h13=>?_) (fun h13=>?_))
 ·refine gm rfl rfl<|Zj rfl rfl rfl<|Zj rfl rfl rfl<|gr rfl (Zq rfl rfl)<|gm rfl rfl<|Zj rfl rfl rfl<|Zj rfl rfl rfl<|gr rfl (Zq rfl rfl)<|gm rfl rfl<|Zj rfl rfl rfl<|Zj rfl rfl rfl<|gr rfl (Zq rfl rfl)<|gas rfl rfl<|gA<|Zk rfl<|Zb<|Za<|gas rfl rfl<|gA<|Zu<|Zx<|Zh<|ZW (.inl rfl) Tryz.results21 rfl (ZS (A:=[]) (B:=[_,_]) (T:=q.hl) [] 2 (by decide) (by decide) rfl rfl) ?_
  exact .inl ⟨by omega,rfl,rfl⟩
 refine gm rfl rfl<|Zg rfl rfl<|Zm rfl (Zo rfl)<|Zg rfl rfl (Zm rfl (Yk rfl rfl) (Zw (fun h16=>?_) (fun h16=>?_)))
 ·refine gr rfl (Zn rfl rfl)<|gm rfl rfl<|Zj rfl rfl rfl<|Zj rfl rfl rfl<|gr rfl (Zq rfl rfl)<|gm rfl rfl<|Zj rfl rfl rfl<|Zj rfl rfl rfl<|gr rfl (Zq rfl rfl)<|gas rfl rfl<|gA<|Zk rfl<|Zb<|Za<|gas rfl rfl<|gA<|Zu<|Zx<|Zh<|ZW (.inl rfl) Tryz.results21 rfl (ZS (A:=[]) (B:=[_,_]) (T:=q.hl) [] 2 (by decide) (by decide) rfl rfl) ?_
  exact .inl ⟨by omega,rfl,rfl⟩
 refine gr rfl (Zn rfl rfl)<|gm rfl rfl<|Zg rfl rfl (Zm rfl (Zi Tryz.underlying3 rfl rfl (by exact Zp 0 rfl rfl)) ?_)
 refine Zg rfl rfl (Zm rfl (ZX rfl rfl) (Zw (fun h20=>?_) (fun h20=>?_)))
 ·refine gr rfl (Zn rfl rfl)<|gm rfl rfl<|Zj rfl rfl rfl<|Zj rfl rfl rfl<|gr rfl (Zq rfl rfl)<|gas rfl rfl<|gA<|Zk rfl<|Zb<|Za<|gas rfl rfl<|gA<|Zu<|Zx<|Zh<|ZW (.inl rfl) Tryz.results21 rfl (ZS (A:=[]) (B:=[_,_]) (T:=q.hl) [] 2 (by decide) (by decide) rfl rfl) ?_
  exact .inl ⟨by omega,rfl,rfl⟩
 refine gr rfl (Zn rfl rfl)<|gm rfl rfl<|Zg rfl rfl (Zm rfl (Zi Tryz.underlying3 rfl rfl (by exact Zp 0 rfl rfl)) ?_)
 refine Zg rfl rfl (Zm rfl (Yk rfl rfl) (Zw (fun h24=>?_) (fun h24=>?_)))
 ·refine gr rfl (Zn rfl rfl)<|gas rfl rfl<|gA<|Zk rfl<|Zb<|Za<|gas rfl rfl<|gA<|Zu<|Zx<|Zh<|ZW (.inl rfl) Tryz.results21 rfl (ZS (A:=[]) (B:=[_,_]) (T:=q.hl) [] 2 (by decide) (by decide) rfl rfl) ?_
  exact .inl ⟨by omega,rfl,rfl⟩
 refine gr rfl (Zn rfl rfl)<|gas rfl rfl<|gA<|Zl rfl<|Zv<|ZI<|Ze<|Zb<|Zb<|Za<|gr rfl (Zi Tryz.underlying36 rfl rfl (by exact Zp 1 rfl rfl)) ?_
 refine Zt (Yn [_,_] q.hl rfl rfl (vf:=[]) (vc:=[]) rfl rfl Tryz.call46 rfl (fun w how hc=>Zfd q (hq.imp (fun h=>⟨V,n,h.ok⟩) id) _ w hc s bp (hP.out (A:=[_,_]) how)) ?_)
 rintro _ _ ⟨rfl,rfl⟩
 refine gas rfl rfl<|gA<|Zb<|Za<|gm rfl rfl<|gr rfl (Z4 rfl rfl) (Zw (fun h29=>?_) (fun h29=>?_))
 ·refine gm rfl rfl<|Zj rfl rfl rfl<|Zj rfl rfl rfl<|Zj rfl rfl rfl<|gr rfl (Zq rfl rfl)<|gA<|Zk rfl<|Zb<|Za<|gm rfl rfl<|gas rfl rfl<|gA<|Zu<|Zh<|ZW (.inl rfl) Tryz.results21 rfl (ZS (A:=[]) (B:=[_,_]) (T:=q.hl) [] 2 (by decide) (by decide) rfl rfl) ?_
  exact .inr ⟨⟨by omega,by omega,by omega,by omega⟩,.inl ⟨h29,rfl,rfl⟩⟩
 refine gm rfl rfl<|Zg rfl rfl<|Zm rfl (Zo rfl)<|Zg rfl rfl (Zm rfl (Zi Tryz.underlying3 rfl rfl (by exact Zp 0 rfl rfl)) ?_)
 refine Zg rfl rfl (Zm rfl (Z8 rfl rfl) (Zw (fun h33=>?_) (fun h33=>?_)))
 ·refine gr rfl (Zn rfl rfl)<|gA<|Zk rfl<|Zb<|Za<|gm rfl rfl<|gas rfl rfl<|gA<|Zu<|Zh<|ZW (.inl rfl) Tryz.results21 rfl (ZS (A:=[]) (B:=[_,_]) (T:=q.hl) [] 2 (by decide) (by decide) rfl rfl) ?_
  have hq0:q.err=0:=by omega
  rw [hq0]
  exact .inr ⟨⟨by omega,by omega,by omega,by omega⟩,.inr (.inl ⟨hq0,h33,rfl,rfl⟩)⟩
 refine gr rfl (Zn rfl rfl)<|gA<|Zl rfl<|Zv<|Ze<|Zb ?_
 have hq0:q.err=0:=by omega
 have hst:=hq.resolve_right (fun h=>h.no hq0)
 refine Za<|gr rfl (Zi Tryz.underlying36 rfl rfl (by exact Zp 1 rfl rfl)) ?_
 refine gm rfl rfl<|gr rfl (Ws (fs:=[]) (cs:=[.tmp 3,.tmp 5]) rfl rfl)<|Zt (Yn [_,_] q.hl rfl rfl (vf:=[]) (vc:=[]) rfl rfl Tryz.call56 rfl (fun w how hc=>Zqz s bp q.bs _ w (hP.out (A:=[_,_]) how) frm 57 [.pointer (some ⟨b3,0,none⟩),.pointer (some ⟨b5,0,none⟩)] Tryz.call57 (Zny s q n frm to s0) (CopyE s q n frm to s0) (copy_hs hn (by omega) (by omega) (by omega) (by omega) (hP.out (A:=[_,_]) how) (how.blkCell 1 rfl rfl) (how.blkOutT 1 rfl) (how.blkCell 0 rfl rfl) (how.blkOutT 0 rfl)) q.hl ⟨q,V,s0,rfl,SS.Like.refl q,hst,rfl⟩ hc) ?_)
 rintro v9 T9 hres
 refine gas rfl rfl<|gA<|Zu<|ZW (.inl rfl) Tryz.results21 rfl (ZS (A:=[]) (B:=[_,_]) (T:=T9) [] 2 (by decide) (by decide) rfl rfl) ?_
 exact .inr ⟨⟨by omega,by omega,by omega,by omega⟩,.inr (.inr ⟨hq0,h33,hres⟩)⟩
namespace Ip
abbrev Pis.cells (x:Pis):List Value:=[.int .i64 x.lv,.int .i64 x.dv,.int .i64 x.nm]
theorem pis_snoc (xs:List Pis) (x:Pis):xs.flatMap Pis.cells++[.int .i64 x.lv,.int .i64 x.dv,.int .i64 x.nm]=(xs++[x]).flatMap Pis.cells:=by simp
def WT (V:Ym) (qf:Pis→Rg→Bool) (x:Pis):Bool:=match XJ V x with | some r=>qf x r | none=>false
def allN (nd l:Nat):List Pis:=(List.range l).flatMap fun l:Nat=>YI nd ((l:Int)+1)
theorem Zkb (nd l:Nat):allN nd (l+1)=allN nd l++YI nd ((l:Int)+1):=by
 unfold allN
 rw [List.range_succ,List.flatMap_append]; simp
theorem Znz (nd:Nat) (hn:nd≤6):∀ l,(allN nd l).length≤68 * l
  | 0=>by simp [allN]
  | l+1=>by
    have:=Znz nd hn l
    rw [Zkb,List.length_append,Ww]; omega
theorem take_fil {l:List Pis} {i:Nat} {x:Pis} (hx:l[i]? = some x) (f:Pis→Bool):(l.take (i+1)).filter f=(l.take i).filter f++(if f x=true then [x] else []):=by
 rw [List.take_add_one,hx,List.filter_append]
 cases h:f x <;> simp [h]
end Ip
open Ip
theorem Zpp (q:SS) (V:Ym) (n:Nat) (hq:q.Ok V n) (s:Org) (bp:Nat) (S:List Nat) (w0:World) (hP:PsIn s bp q.bs w0 S) (qf:Pis→Rg→Bool) (xs:List Pis) (hxl:xs.length≤100000) (b5:Nat) (r0:Option Nat) (c0:Nat) (hown:Own w0 S w0 (.blk b5 [.slice (rowA r0) xs.length c0] 56 :: .row 23 3 r0 xs.length c0 (xs.flatMap Pis.cells)::q.hl)) (x:Pis) (hx:pnE s.ds.length x=0) (hrg:∀ r,XJ V x=some r→RgOk s.ss.length s.cs.length r) (b1 b2:Nat) (hc1:w0.cell? ⟨b1,0,none⟩=some (.pointer (some ⟨bp,0,none⟩))) (hs1:b1 ∉ S) (gf2:FuncId) (caps2:List Value) (hcall2:∀ args w,(callFunc gf2 args).run Tryz.prog w=.ok (.enter gf2 args) w) (hc2:w0.cell? ⟨b2,0,none⟩=some (.func (.func gf2) ([]:List Value).toArray (caps2:List Value).toArray)) (hs2:b2 ∉ S) (hqf:∀ (k:Rg) (r:Option Nat) (c:Nat) (r2:Option Nat) (c2:Nat) (w:World) (l:List HL),Own w0 S w l→RgOk s.ss.length s.cs.length k→OldSl w [] (rowA r) k.1.length 1 (k.1.map natV)→OldSl w [] (rowA r2) k.2.length 1 (k.2.map natV)→Sp Tryz.prog gf2 (Pis.val x :: .agg #[.slice (rowA r) k.1.length c,.slice (rowA r2) k.2.length c2]::caps2) w [] (RV (.bool (qf x k)))):Sp Tryz.prog 93 [Pis.val x,.pointer (some ⟨b1,0,none⟩),.pointer (some ⟨b2,0,none⟩),.pointer (some ⟨b5,0,none⟩)] w0 S (fun v L=>v=.int .i64 0∧∃ (r:Option Nat) (c:Nat),L=.blk b5 [.slice (rowA r) (xs++if WT V qf x=true then [x] else []).length c] 56 :: .row 23 3 r (xs++if WT V qf x=true then [x] else []).length c ((xs++if WT V qf x=true then [x] else []).flatMap Pis.cells)::q.hl):=by
 refine ZC Tryz.func93 rfl Tryz.ntmps93 rfl hown ?_
 simp only [ZV]
 refine Zb<|Za<|Zt (Z6 rfl rfl rfl (fun b4=>?_))
 refine gas rfl rfl<|gA<|Zb<|Zb<|Za<|gr rfl (Zi Tryz.underlying36 rfl rfl (JR hc1 hs1))<|gr rfl (Zr Tryz.underlying23 rfl Yg rfl (by exact ZH 0 (off:=0) (k:=3) rfl rfl) rfl) ?_
 refine Zt (Yn [_,_,_] q.hl rfl rfl (vf:=[]) (vc:=[]) rfl rfl Tryz.call47 rfl (fun w how hc=>Zb7 q V n hq _ w hc s bp (hP.out (A:=[_,_,_]) how) x hx) ?_)
 rintro _ _ ⟨kr,kc,lr,lc,rfl,rfl⟩
 refine gm rfl rfl<|gr rfl (ZD rfl rfl)<|gr rfl (ZD rfl rfl)<|Z0 (fun h13=>?_) (fun h13=>?_)
 ·obtain ⟨r,hkr⟩:=Option.isSome_iff_exists.1 h13
  have hkD:kD V x=r:=by unfold kD; rw [hkr]; rfl
  rw [hkD]
  have hr:=hrg r hkr
  have hkb:WT V qf x=qf x r:=by unfold WT; rw [hkr]
  refine Zt (ZU Z5 rfl rfl (fun b6=>?_))
  refine Zt (Zz 0 Z5 rfl rfl rfl rfl rfl rfl (by rfl) ?_)
  refine gas rfl rfl<|gA<|Zb<|Za<|gm rfl rfl<|gm rfl rfl<|Zg rfl rfl<|Zm rfl (Zi Tryz.underlying124 rfl rfl (JR hc2 hs2))<|Zg rfl rfl (Zm rfl (Zr Tryz.underlying23 rfl Yg rfl (by exact ZH 1 (off:=0) (k:=3) rfl rfl) rfl) ?_)
  refine Zg rfl rfl (Zm rfl (Zr Tryz.underlying26 rfl Z5 rfl (by exact ZH 0 (off:=0) (k:=2) rfl rfl) rfl) ?_)
  refine Zg rfl rfl (ZJ rfl (vf:=[]) (vc:=caps2) rfl rfl hcall2 (fun w1 ho=>hqf r kr kc lr lc w1 _ ho hr (ho.rowSl 4 rfl) (ho.rowSl 5 rfl)) ?_)
  rintro _ _ ⟨rfl,rfl⟩
  refine Z0 (fun h19=>?_) (fun h19=>?_)
  ·refine gr rfl (Zq rfl rfl)<|gA<|Zk rfl<|Za<|gr rfl (Zi Tryz.underlying56 rfl rfl (by exact Zp 2 rfl rfl)) ?_
   refine gr rfl (Zr Tryz.underlying23 rfl Yg rfl (by exact ZH 1 (off:=0) (k:=3) rfl rfl) rfl) ?_
   refine Zt (ZQ (sz:=3) rfl rfl (fun _=>Jb _ _ _) rfl rfl (fun b23=>?_))
   refine Zt (Yb 4 0 Tryz.underlying56 Yg rfl (by decide) rfl rfl rfl rfl rfl (by simp [Value.oneCell']) (by omega) (by omega) (fun _=>(by rfl)) (fun r24 c24=>?_))
   refine Zt (Yc 3 ty_56 rfl rfl rfl rfl rfl (by rfl) (by rfl) ?_)
   refine gA<|Zb ?_
   rw [pis_snoc,show xs.length+1=(xs++[x]).length by simp]
   refine Za<|gas rfl rfl<|gA<|Zu<|ZW (.inl rfl) Tryz.results93 rfl (ZS (A:=[_,_]) (B:=[_,_,_,_,_,_,_]) (T:=q.hl) [3,4] 7 (by decide) (by decide) rfl rfl) ?_
   have e9:WT V qf x=true:=by rw [hkb]; exact h19
   rw [e9]
   exact ⟨rfl,r24,c24,rfl⟩
  refine gr rfl (Zq rfl rfl)<|gA<|Zl rfl<|Zv<|Ze<|Zb<|Za<|gas rfl rfl<|gA<|Zu<|ZW (.inl rfl) Tryz.results93 rfl (ZS (A:=[_,_]) (B:=[_,_,_,_,_,_]) (T:=q.hl) [2,3] 6 (by decide) (by decide) rfl rfl) ?_
  have e9:WT V qf x=false:=by rw [hkb,h19]
  rw [e9]
  rw [show (xs++if (false=true) then [x] else [])=xs by simp]
  exact ⟨rfl,r0,c0,rfl⟩
 have hkn:XJ V x=none:=by simpa using h13
 have hkb:WT V qf x=false:=by unfold WT; rw [hkn]
 refine Zt (ZU Z5 rfl rfl (fun b6=>?_))
 refine Zt (Zz 0 Z5 rfl rfl rfl rfl rfl rfl (by rfl) ?_)
 refine gas rfl rfl<|gA<|Zb<|Za<|gm rfl rfl<|gm rfl rfl<|Zj rfl rfl rfl<|Zj rfl rfl rfl<|Zj rfl rfl rfl<|Zj rfl rfl rfl<|gr rfl (Zn rfl rfl)<|gA<|Zl rfl<|Zv<|Ze<|Zb<|Za<|gas rfl rfl<|gA<|Zu<|ZW (.inl rfl) Tryz.results93 rfl (ZS (A:=[_,_]) (B:=[_,_,_,_,_,_]) (T:=q.hl) [2,3] 6 (by decide) (by decide) rfl rfl) ?_
 have e9:WT V qf x=false:=by rw [hkb]
 rw [e9]
 rw [show (xs++if (false=true) then [x] else [])=xs by simp]
 exact ⟨rfl,r0,c0,rfl⟩
namespace Ip
def ListI (q:SS) (V:Ym) (qf:Pis→Rg→Bool) (b5:Nat) (pre lev:List Pis) (i:Nat) (T:List HL):Prop:=∃ (xs:List Pis) (r:Option Nat) (c:Nat),xs=pre++((lev.take i).filter (WT V qf))∧T=.blk b5 [.slice (rowA r) xs.length c] 56 :: .row 23 3 r xs.length c (xs.flatMap Pis.cells)::q.hl
theorem list_hs {s:Org} {q:SS} {V:Ym} {n:Nat} {bp b1 b2 b5:Nat} {w0 w:World} {S0 S:List Nat} {l0:List HL} {qf:Pis→Rg→Bool} {pre:List Pis} {lv:Int} (hq:q.Ok V n) (hpre:pre.length≤1000) (h1:1≤lv) (h8:lv≤8) (hrg:∀ x r,pnE s.ds.length x=0→XJ V x=some r→RgOk s.ss.length s.cs.length r)
    (hP:PsIn s bp q.bs w S) (hc1:w.cell? ⟨b1,0,none⟩=some (.pointer (some ⟨bp,0,none⟩))) (hs1:b1 ∉ S) {gf2:FuncId} {caps2:List Value} (hcall2:∀ args w,(callFunc gf2 args).run Tryz.prog w=.ok (.enter gf2 args) w) (hc2:w.cell? ⟨b2,0,none⟩=some (.func (.func gf2) ([]:List Value).toArray (caps2:List Value).toArray)) (hs2:b2 ∉ S)
    (ho0:Own w0 S0 w l0) (hSS:∀ b∈S,b∈S0∨w0.heap.size≤b) (hqf:∀ (x:Pis) (k:Rg) (r:Option Nat) (c:Nat) (r2:Option Nat) (c2:Nat) (w:World) (l:List HL),Own w0 S0 w l→pnE s.ds.length x=0→RgOk s.ss.length s.cs.length k→OldSl w [] (rowA r) k.1.length 1 (k.1.map natV)→OldSl w [] (rowA r2) k.2.length 1 (k.2.map natV)→Sp Tryz.prog gf2 (Pis.val x :: .agg #[.slice (rowA r) k.1.length c,.slice (rowA r2) k.2.length c2]::caps2) w [] (RV (.bool (qf x k)))) (i:Nat) (x:Pis) (L:List HL) (w2:World) (hget:(YI s.ds.length lv)[i]? = some x) (hI:ListI q V qf b5 pre (YI s.ds.length lv) i L) (ho:Own w S w2 L) :
    Sp Tryz.prog 93 (Pis.val x::[.pointer (some ⟨b1,0,none⟩),.pointer (some ⟨b2,0,none⟩),.pointer (some ⟨b5,0,none⟩)]) w2 (L.filterMap HL.block) (fun v L'=>(v=.int .i64 0∧ListI q V qf b5 pre (YI s.ds.length lv) (i+1) L')∨∃ e:Int,e≠0∧v=.int .i64 e∧False):=by
  obtain ⟨xs,r7,c7,hxs,rfl⟩:=hI
  have hnd:=hP.nd
  have hx:=((Jv h1 h8).1 (List.mem_of_getElem? hget)).2
  have hxl:xs.length≤100000:=by
    have h3:=List.length_filter_le (WT V qf) ((YI s.ds.length lv).take i)
    have h4:((YI s.ds.length lv).take i).length≤68:=by rw [List.length_take,Ww]; omega
    rw [hxs,List.length_append]; omega
  have hP2:=hP.out (A:=[]) ho
  obtain ⟨e1,f1⟩:=Zee (A:=[]) ho hc1 hs1
  obtain ⟨e2,f2⟩:=Zee (A:=[]) ho hc2 hs2
  have hqf2:∀ (k:Rg) (r:Option Nat) (c:Nat) (r2:Option Nat) (c2:Nat) (w9:World) (l9:List HL),Own w2 ((.blk b5 [.slice (rowA r7) xs.length c7] 56 :: .row 23 3 r7 xs.length c7 (xs.flatMap Pis.cells)::q.hl).filterMap HL.block) w9 l9→RgOk s.ss.length s.cs.length k→OldSl w9 [] (rowA r) k.1.length 1 (k.1.map natV)→OldSl w9 [] (rowA r2) k.2.length 1 (k.2.map natV)→Sp Tryz.prog gf2 (Pis.val x :: .agg #[.slice (rowA r) k.1.length c,.slice (rowA r2) k.2.length c2]::caps2) w9 [] (RV (.bool (qf x k))):=by
    intro k r3 c3 r2 c2 w9 l9 ho9 hk hs3 hs4
    have hsub:∀ b∈(.blk b5 [.slice (rowA r7) xs.length c7] 56 :: .row 23 3 r7 xs.length c7 (xs.flatMap Pis.cells)::q.hl).filterMap HL.block,b∈S∨w.heap.size≤b:=fun b hb=>by
      obtain ⟨y,hy,hyb⟩:=List.mem_filterMap.1 hb
      exact ho.place y hy b hyb
    have k1:Own w S w9 l9:=by
      have:=ho.called ho9 (ho.sub (Zdp [] _)) hsub (by simp)
      rwa [List.append_nil] at this
    have k2:Own w0 S0 w9 l9:=by
      have:=ho0.called k1 (ho0.sub (Zdp [] _)) hSS (by simp)
      rwa [List.append_nil] at this
    exact hqf x k r3 c3 r2 c2 w9 l9 k2 hx hk hs3 hs4
  refine (Zpp q V n hq s bp _ w2 hP2 qf xs hxl b5 r7 c7 ho.inBlocks x hx (fun r h=>hrg x r hx h) b1 b2 e1 f1 gf2 caps2 hcall2 e2 f2 hqf2).mono ?_
  rintro v L' ⟨rfl,r9,c9,rfl⟩
  refine .inl ⟨rfl,_,r9,c9,?_,rfl⟩
  rw [take_fil hget,hxs,List.append_assoc]
end Ip
open Ip
namespace Ip
theorem Zah (a b c d:HL) (T:List HL):Sub ([c,d]++(a::b::T)) ([a,b,c,d]++T):=ZS (A:=[c,d,a,b]) (B:=[a,b,c,d]) (T:=T) [2,3,0,1] 4 (by decide) (by decide) rfl rfl
end Ip
open Ip
theorem Zih (q:SS) (V:Ym) (n:Nat) (hq:q.Ok V n) (s:Org) (bp:Nat) (S:List Nat) (w0:World) (hown:Own w0 S w0 q.hl) (hP:PsIn s bp q.bs w0 S) (qf:Pis→Rg→Bool) (hrg:∀ x r,pnE s.ds.length x=0→XJ V x=some r→RgOk s.ss.length s.cs.length r) (gf2:FuncId) (caps2:List Value) (hcall2:∀ args w,(callFunc gf2 args).run Tryz.prog w=.ok (.enter gf2 args) w) (hqf:∀ (x:Pis) (k:Rg) (r:Option Nat) (c:Nat) (r2:Option Nat) (c2:Nat) (w:World) (l:List HL),Own w0 S w l→pnE s.ds.length x=0→RgOk s.ss.length s.cs.length k→OldSl w [] (rowA r) k.1.length 1 (k.1.map natV)→OldSl w [] (rowA r2) k.2.length 1 (k.2.map natV)→Sp Tryz.prog gf2 (Pis.val x :: .agg #[.slice (rowA r) k.1.length c,.slice (rowA r2) k.2.length c2]::caps2) w [] (RV (.bool (qf x k)))):Sp Tryz.prog 49 [.pointer (some ⟨bp,0,none⟩),.func (.func gf2) ([]:List Value).toArray (caps2:List Value).toArray] w0 S (fun v L=>∃ (r:Option Nat) (c:Nat),v=.slice (rowA r) ((Ze6 s.ds.length).filter (WT V qf)).length c∧L=.row 23 3 r ((Ze6 s.ds.length).filter (WT V qf)).length c (((Ze6 s.ds.length).filter (WT V qf)).flatMap Pis.cells)::q.hl):=by
 have hnd:=hP.nd
 refine ZC Tryz.func49 rfl Tryz.ntmps49 rfl hown ?_
 simp only [ZV]
 refine Zb<|Za<|Zt (Z6 rfl rfl rfl (fun b2=>?_))
 refine Zt (Z6 rfl rfl rfl (fun b3=>?_))
 refine gas rfl rfl<|gA<|Zb<|Za<|Zt (ZU ty_56 rfl rfl (fun b5=>?_))
 refine gA<|Zb<|Zb<|Za<|gm rfl rfl<|gA<|ZB<|YH 23 3<|ZZ (ι:=Nat × Option Nat × Nat) [(2,_),(3,_),(5,_)] (_::_::q.hl) (fun q9=>q9.1≤8) (fun q9 Fr0=>((7,natV q9.1)::Fr0)) (fun q9 Fr0=>(.blk b5 [.slice (rowA q9.2.1) ((allN s.ds.length q9.1).filter (WT V qf)).length q9.2.2] 56 :: .row 23 3 q9.2.1 ((allN s.ds.length q9.1).filter (WT V qf)).length q9.2.2 (((allN s.ds.length q9.1).filter (WT V qf)).flatMap Pis.cells)::Fr0)) (fun q9=>8 - q9.1) (0,none,0) (by simp) ⟨rfl,rfl,rfl,rfl,trivial⟩ (ZS (A:=[_,_,_,_]) (B:=[_,_,_,_]) (T:=q.hl) [1,0,2,3] 4 (by decide) (by decide) rfl rfl) ?_
 rintro ⟨l,r,c⟩ hl
 simp only at hl ⊢
 have hll:=Znz s.ds.length hnd l
 have hlf:=List.length_filter_le (WT V qf) (allN s.ds.length l)
 refine Zb<|Za<|gr rfl (ZX rfl rfl) (Zw (fun h8=>?_) (fun h8=>?_))
 ·refine gA<|Zb<|Zk rfl<|Zv<|Ze<|Zb<|ZB<|Zb<|Za<|gm rfl rfl<|gas rfl rfl<|gA<|Za<|gr rfl (Zi Tryz.underlying36 rfl rfl (by exact Zp 3 rfl rfl)) ?_
  refine gm rfl rfl<|gr rfl (XR rfl rfl (by omega) (by omega)) ?_
  refine gr rfl (Ws (fs:=[]) (cs:=[.tmp 2,.tmp 3,.tmp 5]) rfl rfl)<|Zt (Zcc [_,_,_,_] q.hl [0,1] [2,3] 4 rfl rfl rfl (vf:=[]) (vc:=[]) rfl rfl Tryz.call56 (by decide) (by decide) rfl (fun w how hc=>Zqz s bp q.bs _ w (hP.out (A:=[_,_]) (how.sub (Zah _ _ _ _ _))) _ 93 [.pointer (some ⟨b2,0,none⟩),.pointer (some ⟨b3,0,none⟩),.pointer (some ⟨b5,0,none⟩)] Tryz.call93 (ListI q V qf b5 ((allN s.ds.length l).filter (WT V qf)) (YI s.ds.length ((l:Int)+1))) (fun _ _=>False) (list_hs hq (by omega) (by omega) (by omega) hrg (hP.out (A:=[_,_]) (how.sub (Zah _ _ _ _ _))) (how.blkCell 3 rfl rfl) (Own.blkOutT (A:=[_,_]) (how.sub (Zah _ _ _ _ _)) 1 rfl) hcall2 (how.blkCell 2 rfl rfl) (Own.blkOutT (A:=[_,_]) (how.sub (Zah _ _ _ _ _)) 0 rfl) how (fun b hb=>by obtain ⟨y,hy,hyb⟩:=List.mem_filterMap.1 hb; exact (how.sub (Zah _ _ _ _ _)).place y (List.mem_append_right [_,_] hy) b hyb) hqf) _ ⟨_,r,c,by simp,rfl⟩ hc) ?_)
  rintro _ _ (⟨rfl,ys9,r9,c9,hys,rfl⟩ | ⟨e9,_,_,hF⟩)
  ·refine Jh [_,_] q.hl [_,_] ?_
   rw [List.take_length,← List.filter_append,← Zkb] at hys
   subst hys
   refine ZM<|ZI<|Ze<|Za<|gr rfl (by exact ZL (b:=1) rfl rfl (by omega)) ?_
   refine gm rfl rfl<|ZM<|Ze ?_
   exact ZR ((l+1,r9,c9)) ⟨by simp only; omega,by simp only; omega⟩ ⟨rfl,rfl,rfl,rfl,trivial⟩ (YL 0 rfl)
  exact hF.elim
 refine gA<|Zb<|Zl rfl<|Z1<|Zs<|Zs<|ZE<|Ze<|Zb<|Za<|gr rfl (Zi Tryz.underlying56 rfl rfl (by exact Zp 0 rfl rfl)) ?_
 refine gas rfl rfl<|gA<|Zu<|ZW (.inl rfl) Tryz.results49 rfl (ZS (A:=[_]) (B:=[_,_,_,_]) (T:=q.hl) [1] 4 (by decide) (by decide) rfl rfl) ?_
 have hl9:l=8:=by omega
 subst hl9
 exact ⟨r,c,rfl,rfl⟩
namespace Ip
theorem PSt.listed {s:Org} {q:SS} {V:Ym} {n:Nat} {U:List Pis} {L:List (Pis × Rg)} (h:PSt s q V n U L) (qf:Pis→Rg→Bool):(Ze6 s.ds.length).filter (WT V qf)=(L.filter fun p=>qf p.1 p.2).map (·.1):=Zr4 h.pr qf
def LitIs (s:Org) (q:SS) (s0:RS) (ss cs:List Int) (e:Int) (l:List Pis):Prop :=
  (Xq [XB s.ss.length s.cs.length ss cs,q.err]≠0∧e=Xq [XB s.ss.length s.cs.length ss cs,q.err]∧l=[]) ∨
  (Xq [XB s.ss.length s.cs.length ss cs,q.err]=0∧e=0∧∃ r:Rg,ss=Y9 r.1∧cs=Y9 r.2∧RgOk s.ss.length s.cs.length r∧l=(s0.2.filter fun p=>Zfg s r p.1 p.2).map (·.1))
end Ip
open Ip
theorem list1_ok (a b:Value) (w0:World):Sp Tryz.prog 50 [a,b] w0 [] (RV (.bool true)):=by
 refine ZC Tryz.func50 rfl Tryz.ntmps50 rfl (Own.refl _) ?_
 simp only [ZV]
 refine Zb<|Za<|Zt (Z6 rfl rfl rfl (fun b2=>?_))
 refine Zt (Z6 rfl rfl rfl (fun b3=>?_))
 refine gas rfl rfl<|gA<|Zb<|Za<|gas rfl rfl<|gA<|Zu<|Zy (.inl rfl) Tryz.results50 rfl [] (by decide) ?_
 exact ⟨rfl,rfl⟩
theorem lit1_ok (s:Org) (bp bs:Nat) (w0:World) (hP:PsIn s bp bs w0 []) (x:Pis) (k w:Rg) (hk:RgOk s.ss.length s.cs.length k) (hw:RgOk s.ss.length s.cs.length w) (a1 a2 a3 a4:Option Addr) (c1 c2 c3 c4:Nat) (h1:OldSl w0 [] a1 k.1.length 1 (k.1.map natV)) (h2:OldSl w0 [] a2 k.2.length 1 (k.2.map natV)) (h3:OldSl w0 [] a3 w.1.length 1 (w.1.map natV)) (h4:OldSl w0 [] a4 w.2.length 1 (w.2.map natV)) (b1 b2:Nat) (hc1:w0.cell? ⟨b1,0,none⟩=some (.pointer (some ⟨bp,0,none⟩))) (hb2:Cells w0 ⟨b2,0,none⟩ [.slice a3 w.1.length c3,.slice a4 w.2.length c4]):Sp Tryz.prog 51 [Pis.val x,.agg #[.slice a1 k.1.length c1,.slice a2 k.2.length c2],.pointer (some ⟨b1,0,none⟩),.pointer (some ⟨b2,0,none⟩)] w0 [] (RV (.bool (Zfg s w x k))):=by
 have hns:=hP.ns
 have hnc:=hP.nc
 have hpo:=Zb6 s x k w
 have hl1:=Vr hpo hns
 have hl2:=Vs hpo hnc
 refine ZC Tryz.func51 rfl Tryz.ntmps51 rfl (Own.refl _) ?_
 simp only [ZV]
 refine Zb<|Za<|Zt (Z6 rfl rfl rfl (fun b4=>?_))
 refine Zt (Z6 rfl rfl rfl (fun b5=>?_))
 refine gas rfl rfl<|gA<|Zb<|Za<|gr rfl (Zi Tryz.underlying36 rfl rfl (JR hc1 (by simp))) ?_
 refine gr rfl (Zr Tryz.underlying23 rfl Yg rfl (by exact ZH 1 (off:=0) (k:=3) rfl rfl) rfl) ?_
 refine gr rfl (Zr Tryz.underlying26 rfl Z5 rfl (by exact ZH 0 (off:=0) (k:=2) rfl rfl) rfl) ?_
 refine gr rfl (Zr Tryz.underlying26 rfl Z5 rfl (Zej hb2 (by simp)) rfl) ?_
 refine Zt (ZJ rfl (vf:=[]) (vc:=[]) rfl rfl Tryz.call48 (fun w1 ho=>Zig s bp bs w1 (hP.at ho) x k w hk hw a1 a2 a3 a4 c1 c2 c3 c4 (h1.at ho) (h2.at ho) (h3.at ho) (h4.at ho)) ?_)
 rintro _ _ ⟨rS,cS,rC,cC,rfl,rfl⟩
 refine Zt (ZU Z5 rfl rfl (fun b7=>?_))
 refine Zt (Zz 0 Z5 rfl rfl rfl rfl rfl rfl (by rfl) ?_)
 refine gA<|Zb<|Za<|gr rfl (Zd rfl (Yu _))<|gr rfl (Zi Tryz.underlying24 rfl rfl (by exact Zp 0 rfl rfl)) ?_
 refine gr rfl (Zd rfl (Yu _))<|gr rfl (Zi Tryz.underlying24 rfl rfl (Yj hb2 (by simp) (j:=0) rfl)) ?_
 refine Zt (ZJ rfl (vf:=[]) (vc:=[]) rfl rfl Tryz.call52 (fun w1 ho=>Zj7 (Xf s x k w).1 w.1 _ _ _ _ (by omega) w1 (ho.rowSl 1 rfl) (h3.at ho)) ?_)
 rintro _ _ ⟨rfl,rfl⟩
 refine Z0 (fun h17=>?_) (fun h17=>?_)
 ·refine gm rfl rfl<|Zg rfl rfl<|Zm rfl (Zd rfl (Yv _))<|Zg rfl rfl (Zm rfl (Zi Tryz.underlying24 rfl rfl (by exact Zp 0 rfl rfl)) ?_)
  refine Zg rfl rfl<|Zm rfl (Zd rfl (Yv _))<|Zg rfl rfl (Zm rfl (Zi Tryz.underlying24 rfl rfl (Yj hb2 (by simp) (j:=1) rfl)) ?_)
  refine Zg rfl rfl (ZJ rfl (vf:=[]) (vc:=[]) rfl rfl Tryz.call52 (fun w1 ho=>Zj7 (Xf s x k w).2 w.2 _ _ _ _ (by omega) w1 (ho.rowSl 2 rfl) (h4.at ho)) ?_)
  rintro _ _ ⟨rfl,rfl⟩
  refine gr rfl (Zq rfl rfl)<|gas rfl rfl<|gA<|Zu<|Zy (.inl rfl) Tryz.results51 rfl [] (by decide) ?_
  refine ⟨congrArg Value.bool (Eq.symm ?_),rfl⟩
  unfold Zfg
  rw [h17,Bool.true_and]
 refine gm rfl rfl<|Zj rfl rfl rfl<|Zj rfl rfl rfl<|Zj rfl rfl rfl<|Zj rfl rfl rfl<|Zj rfl rfl rfl<|gr rfl (Zn rfl rfl)<|gas rfl rfl<|gA<|Zu<|Zy (.inl rfl) Tryz.results51 rfl [] (by decide) ?_
 refine ⟨congrArg Value.bool (Eq.symm ?_),rfl⟩
 unfold Zfg
 rw [h17]
 rfl
theorem List_okP (q:SS) (V:Ym) (n:Nat) (s:Org) (s0:RS) (hq:PSt s q V n s0.1 s0.2∨q.Stop) (S:List Nat) (w0:World) (hown:Own w0 S w0 q.hl) (hn:n+100<1000000) (bp:Nat) (hP:PsIn s bp q.bs w0 S):Sp Tryz.prog 17 [.pointer (some ⟨bp,0,none⟩)] w0 S (fun v L=>∃ (r:Option Nat) (c:Nat),v=.tuple #[.slice (rowA r) (if q.err=0 then s0.2.map (·.1) else []).length c,.int .i64 q.err]∧L=.row 23 3 r (if q.err=0 then s0.2.map (·.1) else []).length c ((if q.err=0 then s0.2.map (·.1) else []).flatMap Pis.cells)::q.hl):=by
 refine ZC Tryz.func17 rfl Tryz.ntmps17 rfl hown ?_
 simp only [ZV]
 refine Zb<|Za<|gas rfl rfl<|gas rfl rfl<|gA<|Zb<|Zb<|Za<|gm rfl rfl<|Zt (ZJ rfl (vf:=[]) (vc:=[]) rfl rfl Tryz.call43 (fun w1 ho=>Zck bp true w1 (by have h9:=(hP.at ho).p 0 _ rfl; exact h9)) ?_)
 rintro _ _ ⟨rfl,rfl⟩
 refine gA<|Zl rfl<|Zv<|Ze<|Zb<|Zb<|Za<|gm rfl rfl<|Zt (Yn [] q.hl rfl rfl (vf:=[]) (vc:=[]) rfl rfl Tryz.call46 rfl (fun w how hc=>Zfd q (hq.imp (fun h=>⟨V,n,h.ok⟩) id) _ w hc s bp (hP.out (A:=[]) how)) ?_)
 rintro _ _ ⟨rfl,rfl⟩
 refine gas rfl rfl<|gA<|Zb<|Za<|gm rfl rfl<|gr rfl (Z4 rfl rfl) (Zw (fun h10=>?_) (fun h10=>?_))
 ·refine gA<|Zk rfl<|Zb<|YH 23 3<|Za<|gm rfl rfl<|gas rfl rfl<|gas rfl rfl<|gA<|Zu<|Zh<|XE (.inl rfl) Tryz.results17 rfl rfl (YL 0 rfl) ?_
  exact ⟨none,0,by rw [if_neg h10]; rfl,by rw [if_neg h10]; rfl⟩
 refine gA<|Zl rfl<|Zv<|Ze<|Zb ?_
 have hq0:q.err=0:=by omega
 have hst:=hq.resolve_right (fun h=>h.no hq0)
 refine Za<|gm rfl rfl<|Zt (Yn [] q.hl rfl rfl (vf:=[]) (vc:=[]) rfl rfl Tryz.call49 rfl (fun w how hc=>Zih q V n hst.ok s bp _ w hc (hP.out (A:=[]) how) (fun _ _=>true) (fun x r hx hk=>hst.rg hx hk) 50 [] Tryz.call50 (fun x k r c r2 c2 w9 l9 _ _ _ _ _=>list1_ok _ _ w9)) ?_)
 rintro _ _ ⟨rO,cO,rfl,rfl⟩
 rw [hst.listed]
 refine gas rfl rfl<|gas rfl rfl<|gA<|Zu<|XE (.inl rfl) Tryz.results17 rfl rfl (YL 0 rfl) ?_
 have e9:(s0.2.filter fun p=>true).map (·.1)=s0.2.map (·.1):=by rw [List.filter_eq_self.2 (fun _ _=>rfl)]
 rw [e9]
 exact ⟨rO,cO,by rw [if_pos hq0,hq0],by rw [if_pos hq0]; rfl⟩
theorem Lit_okP (q:SS) (V:Ym) (n:Nat) (s:Org) (s0:RS) (hq:PSt s q V n s0.1 s0.2∨q.Stop) (S:List Nat) (w0:World) (hown:Own w0 S w0 q.hl) (hn:n+100<1000000) (bp:Nat) (hP:PsIn s bp q.bs w0 S) (ss cs:List Int) (a1 a2:Option Addr) (c1 c2:Nat) (hl1:ss.length≤140737488355328) (hl2:cs.length≤140737488355328) (h1:OldSl w0 S a1 ss.length 1 (ss.map Xy)) (h2:OldSl w0 S a2 cs.length 1 (cs.map Xy)):Sp Tryz.prog 18 [.pointer (some ⟨bp,0,none⟩),.agg #[.slice a1 ss.length c1,.slice a2 cs.length c2]] w0 S (fun v L=>∃ (e:Int) (l:List Pis) (r:Option Nat) (c:Nat),v=.tuple #[.slice (rowA r) l.length c,.int .i64 e]∧L=.row 23 3 r l.length c (l.flatMap Pis.cells)::q.hl∧LitIs s q s0 ss cs e l):=by
 refine ZC Tryz.func18 rfl Tryz.ntmps18 rfl hown ?_
 simp only [ZV]
 refine Zb<|Za<|Zt (Z6 rfl rfl rfl (fun b2=>?_))
 refine Zt (Z6 rfl rfl rfl (fun b3=>?_))
 refine gas rfl rfl<|gas rfl rfl<|gA<|Zb<|Zb<|Za<|gr rfl (Zi Tryz.underlying36 rfl rfl (by exact Zp 1 rfl rfl)) ?_
 refine Zt (ZJ rfl (vf:=[]) (vc:=[]) rfl rfl Tryz.call43 (fun w1 ho=>Zck bp true w1 (by have h9:=(hP.at ho).p 0 _ rfl; exact h9)) ?_)
 rintro _ _ ⟨rfl,rfl⟩
 refine gA<|Zl rfl<|Zv<|Ze<|Zb<|Zb<|Zdo [_,_] q.hl [0,1] true 6 rfl rfl<|Zc 0 rfl rfl (YL 0 rfl) (Zf (Zi Tryz.underlying36 rfl rfl (by exact Zp 1 rfl rfl))) ?_
 refine Zc 1 rfl rfl (YL 0 rfl) (Zf (Zr Tryz.underlying26 rfl Z5 rfl (by exact ZH 0 (off:=0) (k:=2) rfl rfl) rfl)) ?_
 refine Zc 2 rfl rfl (YL 0 rfl) (YE (vf:=[]) (vc:=[]) rfl rfl Tryz.call45 (fun w1 ho=>VY s bp q.bs w1 (hP.at ho) ss cs a1 a2 c1 c2 hl1 hl2 (h1.at ho) (h2.at ho)) (by rintro _ _ ⟨h,_⟩; exact h)) ?_
 refine Zc 3 rfl rfl (YL 0 rfl) (Zf (Zi Tryz.underlying36 rfl rfl (by exact Zp 1 rfl rfl))) ?_
 refine Zc 6 rfl rfl (YL 0 rfl) (Zf (Zo rfl)) ?_
 refine ZK 4 rfl (.inr (YL 0 rfl)) (Yn [_,_] q.hl rfl rfl (vf:=[]) (vc:=[]) rfl rfl Tryz.call46 rfl (fun w how hc=>Zfd q (hq.imp (fun h=>⟨V,n,h.ok⟩) id) _ w hc s bp (hP.out (A:=[_,_]) how)) ?_)
 rintro _ _ ⟨rfl,rfl⟩
 refine Zc 5 rfl rfl (YL 0 rfl) (Zf (ZT rfl (fun _=>Zhi _ _))) ?_
 refine ZP (.inr (YL 0 rfl)) ?_
 refine Ze<|ZB<|ZZ (ι:=Nat) [(2,_),(3,_),(15,_)] (_::_::q.hl) (fun k=>k≤2∧∀ j,j<k→[XB s.ss.length s.cs.length ss cs,q.err].getD j 0=0) (fun k Fr0=>((16,natV k)::Fr0)) (fun k Fr0=>Fr0) (fun k=>2 - k) 0 (⟨Nat.zero_le _,fun j h=>absurd h (Nat.not_lt_zero j)⟩) ⟨rfl,rfl,rfl,rfl,trivial⟩ (YL 0 rfl) ?_
 rintro k ⟨hk,hall⟩
 refine Zb<|Za<|gr rfl (ZX rfl rfl) (Zw (fun hlt=>?_) (fun hlt=>?_))
 ·refine gA<|Zb<|Zk rfl<|Zv<|Ze<|Zb<|ZB<|Zb<|Za<|gr rfl (V4 Tryz.underlying125 Tryz.underlying37 ty_37 rfl rfl (by omega) (arr2 _ _ (by omega))) ?_
  refine gas rfl rfl<|gA<|Zb<|Za<|gm rfl rfl<|gr rfl (Z4 rfl rfl) (Zw (fun hne=>?_) (fun hne=>?_))
  ·refine gA<|Zk rfl<|Zb<|YH 23 3<|Za<|gm rfl rfl<|gas rfl rfl<|gas rfl rfl<|gA<|Zu<|Zx<|Zh<|Zh<|Zx<|Zh<|XE (.inl rfl) Tryz.results18 rfl rfl (ZS (A:=[_]) (B:=[_,_,_]) (T:=q.hl) [0] 3 (by decide) (by decide) rfl rfl) ?_
   have hz:=Zag hall hne
   exact ⟨_,[],none,0,rfl,rfl,.inl ⟨by rw [hz]; exact hne,by rw [hz],rfl⟩⟩
  refine gA<|Zl rfl<|Zv<|ZI<|Ze<|Za<|gr rfl (by exact ZL (b:=1) rfl rfl (by omega)) ?_
  refine gm rfl rfl<|ZM<|Ze ?_
  exact ZR (k+1) ⟨⟨by omega,fun j hj=>by
   rcases Nat.lt_or_eq_of_le (Nat.le_of_lt_succ hj) with h | rfl
   ·exact hall j h
   ·omega⟩,by omega⟩ ⟨rfl,rfl,rfl,rfl,trivial⟩ (YL 0 rfl)
 refine gA<|Zb<|Zl rfl<|Z1<|Zs<|Zs<|ZE<|Ze<|Zb ?_
 have hz:=VT (l:=[XB s.ss.length s.cs.length ss cs,q.err]) (fun j hj=>hall j (by simp at hj; omega))
 have hr0:XB s.ss.length s.cs.length ss cs=0:=hall 0 (by omega)
 have hq0:q.err=0:=hall 1 (by omega)
 have hst:=hq.resolve_right (fun h=>h.no hq0)
 obtain ⟨r,rfl,rfl,hr⟩:=Ze7 hr0
 rw [YA] at h1 h2
 rw [Wl] at h1 h2
 rw [YA,YA]
 refine Za<|gr rfl (Zi Tryz.underlying36 rfl rfl (by exact Zp 1 rfl rfl)) ?_
 refine gr rfl (Ws (fs:=[]) (cs:=[.tmp 2,.tmp 3]) rfl rfl)<|Zt (Yn [_,_] q.hl rfl rfl (vf:=[]) (vc:=[]) rfl rfl Tryz.call49 rfl (fun w how hc=>Zih q V n hst.ok s bp _ w hc (hP.out (A:=[_,_]) how) (Zfg s r) (fun x r hx hk=>hst.rg hx hk) 51 [.pointer (some ⟨b2,0,none⟩),.pointer (some ⟨b3,0,none⟩)] Tryz.call51 (fun x k r5 c5 r6 c6 w9 l9 ho9 _ hk h8 h9=>lit1_ok s bp q.bs w9 ((hP.out (A:=[_,_]) how).at ho9) x k r hk hr _ _ a1 a2 c5 c6 c1 c2 h8 h9 ((slOutW how h1 (by decide) []).at ho9) ((slOutW how h2 (by decide) []).at ho9) b2 b3 (ho9.cellOld (how.blkCell 1 rfl rfl) (how.blkOutT 1 rfl)) ((how.blkCells 0 rfl).atS ho9 (how.blkOutT 0 rfl)))) ?_)
 rintro _ _ ⟨rO,cO,rfl,rfl⟩
 rw [hst.listed]
 refine gas rfl rfl<|gas rfl rfl<|gA<|Zu<|XE (.inl rfl) Tryz.results18 rfl rfl (YL 2 rfl) ?_
 exact ⟨0,_,rO,cO,rfl,rfl,.inr ⟨hz,rfl,r,rfl,rfl,hr,rfl⟩⟩
namespace Ip
def Done (s:Org) (q:SS) (n:Nat) (t:RS) (e:Int) (v:Value) (T:List HL):Prop:=∃ (q2:SS) (V2:Ym),T=q2.hl∧q.Like q2∧PSt s q2 V2 n t.1 t.2∧v=.int .i64 e
def Broke (s:Org) (q:SS) (n:Nat) (t1 t2:RS) (v:Value) (T:List HL):Prop:=v=.int .i64 9∧q.f.left≠-1∧∃ (q2:SS) (V1 V2:Ym),T=q2.hl∧q.Like q2∧q2.Torn n V1 V2∧PR s.ds.length s.ss.length s.cs.length V1 t1.1 t1.2∧PR s.ds.length s.ss.length s.cs.length V2 t2.1 t2.2
section
variable {s:Org} {q:SS} {V:Ym} {n:Nat} {t:RS} {x:Pis} {ss cs:List Int} {v:Value} {T:List HL}
theorem put_conv (h:PSt s q V n t.1 t.2) (hx:pnE s.ds.length x=0) {vs:List Nat} {t2:RS} (hpr:PR s.ds.length s.ss.length s.cs.length (Zc4 V (keyN x) (q.num+1) vs) t2.1 t2.2) (hR:PutR q V n (keyN x) vs v T) :
    (Vt q.cap t.1 x∧v=.int .i64 5∧T=q.hl)∨(¬ Vt q.cap t.1 x∧(Done s q (n+1) t2 0 v T∨Broke s q (n+1) t t2 v T)):=by
  have hf:=h.full hx
  rcases hR with ⟨h1,rfl,rfl⟩ | ⟨h1,q2,rfl,hq2,hlk,rfl⟩ | ⟨h1,q2,rfl,hl,hq2,hlk,rfl⟩
  · exact .inl ⟨hf.1 h1,rfl,rfl⟩
  · exact .inr ⟨fun h2=>h1 (hf.2 h2),.inl ⟨q2,_,rfl,hlk,⟨hq2,hpr⟩,rfl⟩⟩
  · exact .inr ⟨fun h2=>h1 (hf.2 h2),.inr ⟨rfl,hl,q2,_,_,rfl,hlk,hq2,h.pr,hpr⟩⟩
theorem Done.same (h:PSt s q V n t.1 t.2) {m:Nat} (hm:n≤m) {e:Int}:Done s q m t e (.int .i64 e) q.hl:=⟨q,V,rfl,SS.Like.refl q,h.mono hm,rfl⟩
theorem Zn1 (h:PSt s q V n t.1 t.2) (hR:SetR s q V n x ss cs v T) :
    Done s q (n+1) (Wx s q.cap t x ss cs).1 (Wx s q.cap t x ss cs).2 v T∨((Wx s q.cap t x ss cs).2=0∧Broke s q (n+1) t (Wx s q.cap t x ss cs).1 v T):=by
  have h0:=h.ok.zero
  have hz:Xq [pnE s.ds.length x,XB s.ss.length s.cs.length ss cs,q.err]=if pnE s.ds.length x≠0 then pnE s.ds.length x else if XB s.ss.length s.cs.length ss cs≠0 then XB s.ss.length s.cs.length ss cs else 0:=by
    rw [h0]; simp [Xq]
  unfold Wx
  rcases hR with ⟨h1,rfl,rfl⟩ | ⟨h1,hq,hx,r,rfl,rfl,hr,hput⟩
  · rw [hz] at h1 ⊢
    by_cases hp:pnE s.ds.length x≠0
    · rw [if_pos hp,if_pos hp]
      exact .inl (Done.same h (by omega))
    · rw [if_neg hp] at h1 ⊢
      by_cases hg:XB s.ss.length s.cs.length ss cs≠0
      · rw [if_pos hg,if_neg hp,if_pos hg]
        exact .inl (Done.same h (by omega))
      · rw [if_neg hg] at h1; exact absurd rfl h1
  · have hg:XB s.ss.length s.cs.length (Y9 r.1) (Y9 r.2)=0:=Zph hr
    rw [if_neg (by omega),if_neg (by omega),VC]
    have hwo:=Za7 (s:=s) x hr
    rcases put_conv h hx (t2:=(Xc t.1 x,VS t.2 x (Yz s x r))) (h.pr.set hx hwo (q.num+1)) hput with ⟨hf,rfl,rfl⟩ | ⟨hf,hd⟩
    · rw [if_pos hf]
      exact .inl (Done.same h (by omega))
    · rw [if_neg hf]
      rcases hd with hd | hd
      · exact .inl hd
      · exact .inr ⟨rfl,hd⟩
theorem Zpq (h:PSt s q V n t.1 t.2) (hR:ClearR s q V n x v T) :
    Done s q (n+1) (Wi s t x).1 (Wi s t x).2 v T∨((Wi s t x).2=0∧Broke s q (n+1) t (Wi s t x).1 v T):=by
  have h0:=h.ok.zero
  have hz:Xq [pnE s.ds.length x,q.err]=if pnE s.ds.length x≠0 then pnE s.ds.length x else 0:=by
    rw [h0]; simp [Xq]
  unfold Wi
  rcases hR with ⟨h1,rfl,rfl⟩ | ⟨h1,hq,hx,⟨hk,rfl,rfl⟩ | ⟨hk,hput⟩⟩
  · rw [hz] at h1 ⊢
    by_cases hp:pnE s.ds.length x≠0
    · rw [if_pos hp,if_pos hp]
      exact .inl (Done.same h (by omega))
    · rw [if_neg hp] at h1; exact absurd rfl h1
  · rw [if_neg (by omega),← h.kept hx,hk]
    exact .inl (Done.same h (by omega))
  · rw [if_neg (by omega)]
    obtain ⟨hU,hv⟩:=h.used hx hk
    obtain ⟨r,hr⟩:=Option.isSome_iff_exists.1 hk
    rw [← h.kept hx,hr]
    rcases put_conv h hx (t2:=(t.1,forgetR t.2 x)) (h.pr.clear hx hU (q.num+1)) hput with ⟨hf,rfl,rfl⟩ | ⟨hf,hd⟩
    · exact absurd hU hf.1
    · rcases hd with hd | hd
      · exact .inl hd
      · exact .inr ⟨rfl,hd⟩
theorem Zsg {frm to:Int} (h:PSt s q V n t.1 t.2) (hR:CopyR s q n frm to t v T) :
    Done s q (n+100) (XZ s q.cap t frm to).1 (XZ s q.cap t frm to).2 v T ∨
    ((1≤frm∧frm≤8∧1≤to∧to≤8∧frm≠to)∧∃ (i:Nat) (t1 t2:RS),i<(YI s.ds.length frm).length∧Y2 q.cap to ((YI s.ds.length frm).take i) t=(t1,0)∧Y2 q.cap to ((YI s.ds.length frm).take (i+1)) t=(t2,0)∧Broke s q (n+100) t1 t2 v T):=by
  have h0:=h.ok.zero
  unfold XZ
  rcases hR with ⟨h1,rfl,rfl⟩ | ⟨⟨h1,h2,h3,h4⟩,⟨h5,rfl,rfl⟩ | ⟨h5,rfl,rfl,rfl⟩ | ⟨h5,h6,hr⟩⟩
  · rw [if_pos h1]
    exact .inl (Done.same h (by omega))
  · exact absurd h0 h5
  · rw [if_neg (by omega),if_pos rfl]
    exact .inl (Done.same h (by omega))
  · rw [if_neg (by omega),if_neg h6]
    rcases hr with ⟨rfl,q2,V2,t2,rfl,hlk,hst,hcf⟩ | ⟨e,he,rfl,⟨rfl,q2,V2,t2,rfl,hlk,hst,hcf⟩ | ⟨rfl,hl,i,q2,V1,V2,t1,t2,hi,rfl,hlk,hq2,hp1,hp2,hc1,hc2⟩⟩
    · rw [List.take_length] at hcf
      rw [hcf]
      have hil:=Ww frm s.ds.length
      have hnd:=h.pr.hnd
      exact .inl ⟨q2,V2,rfl,hlk,hst.mono (by omega),rfl⟩
    · rw [hcf]
      exact .inl ⟨q2,V2,rfl,hlk,hst,rfl⟩
    · exact .inr ⟨⟨h1,h2,h3,h4,h6⟩,i,t1,t2,hi,hc1,hc2,rfl,hl,q2,V1,V2,rfl,hlk,hq2,hp1,hp2⟩
theorem Zii (h:PSt s q V n t.1 t.2) {e:Int} {p:Rg} (hR:Zqw s q V n x ss cs e p):e=(Yp s t x ss cs).2∧p=(Yp s t x ss cs).1:=by
 have h0:=h.ok.zero
 have hz:Xq [pnE s.ds.length x,XB s.ss.length s.cs.length ss cs,q.err]=if pnE s.ds.length x≠0 then pnE s.ds.length x else if XB s.ss.length s.cs.length ss cs≠0 then XB s.ss.length s.cs.length ss cs else 0:=by
  rw [h0]; simp [Xq]
 unfold Yp
 rcases hR with ⟨h1,rfl,rfl⟩ | ⟨h1,hq,hx,r,rfl,rfl,hr,hk⟩
 ·rw [hz] at h1 ⊢
  by_cases hp:pnE s.ds.length x≠0
  ·rw [if_pos hp,if_pos hp]; exact ⟨rfl,rfl⟩
  ·rw [if_neg hp] at h1 ⊢
   by_cases hg:XB s.ss.length s.cs.length ss cs≠0
   ·rw [if_pos hg,if_neg hp,if_pos hg]; exact ⟨rfl,rfl⟩
   ·rw [if_neg hg] at h1; exact absurd rfl h1
 ·have hg:XB s.ss.length s.cs.length (Y9 r.1) (Y9 r.2)=0:=Zph hr
  rw [if_neg (by omega),if_neg (by omega),VC,← h.kept hx]
  rcases hk with ⟨hk,rfl,rfl⟩ | ⟨k,hk,rfl,rfl⟩
  ·rw [hk]; exact ⟨rfl,rfl⟩
  ·rw [hk]; exact ⟨rfl,rfl⟩
theorem lit_conv (h:PSt s q V n t.1 t.2) {e:Int} {l:List Pis} (hR:LitIs s q t ss cs e l):e=(Wn s t ss cs).2∧l=(Wn s t ss cs).1:=by
 have h0:=h.ok.zero
 have hz:Xq [XB s.ss.length s.cs.length ss cs,q.err]=if XB s.ss.length s.cs.length ss cs≠0 then XB s.ss.length s.cs.length ss cs else 0:=by
  rw [h0]; simp [Xq]
 unfold Wn
 rcases hR with ⟨h1,rfl,rfl⟩ | ⟨h1,rfl,r,rfl,rfl,hr,rfl⟩
 ·rw [hz] at h1 ⊢
  by_cases hg:XB s.ss.length s.cs.length ss cs≠0
  ·rw [if_pos hg,if_pos hg]; exact ⟨rfl,rfl⟩
  ·rw [if_neg hg] at h1; exact absurd rfl h1
 ·have hg:XB s.ss.length s.cs.length (Y9 r.1) (Y9 r.2)=0:=Zph hr
  rw [if_neg (by omega),VC]; exact ⟨rfl,rfl⟩
end
structure Ac where
  what:Nat
  x:Pis
  a1:Option Addr
  c1:Nat
  ss:List Int
  a2:Option Addr
  c2:Nat
  cs:List Int
  frm:Int
  to:Int
  deriving Inhabited
abbrev Ac.cells (a:Ac):List Value:=[.int .u8 (a.what:Int),.int .i64 a.x.lv,.int .i64 a.x.dv,.int .i64 a.x.nm,.slice a.a1 a.ss.length a.c1,.slice a.a2 a.cs.length a.c2,.int .i64 a.frm,.int .i64 a.to]
abbrev Ac.val (a:Ac):Value:=.agg #[.int .u8 (a.what:Int),.int .i64 a.x.lv,.int .i64 a.x.dv,.int .i64 a.x.nm,.slice a.a1 a.ss.length a.c1,.slice a.a2 a.cs.length a.c2,.int .i64 a.frm,.int .i64 a.to]
structure AcIn (a:Ac) (w:World) (S:List Nat):Prop where
  s:OldSl w S a.a1 a.ss.length 1 (a.ss.map Xy)
  c:OldSl w S a.a2 a.cs.length 1 (a.cs.map Xy)
structure AcLe (a:Ac):Prop where
  w:a.what<256
  s:a.ss.length≤140737488355328
  c:a.cs.length≤140737488355328
theorem AcIn.at {a:Ac} {w0 w:World} {S:List Nat} {l:List HL} (h:AcIn a w0 S) (ho:Own w0 S w l):AcIn a w []:=⟨h.s.at ho,h.c.at ho⟩
structure AcsIn (la:Option Addr) (l:List Ac) (w:World) (S:List Nat):Prop where
  t:OldSl w S la l.length 8 (l.flatMap Ac.cells)
  r:∀ a∈l,AcIn a w S
theorem AcsIn.at {la:Option Addr} {l:List Ac} {w0 w:World} {S:List Nat} {h:List HL} (hi:AcsIn la l w0 S) (ho:Own w0 S w h):AcsIn la l w []:=⟨hi.t.at ho,fun a ha=>(hi.r a ha).at ho⟩
end Ip
open Ip
theorem Same_ok (xs ys xt yt:List Int) (x1 y1 x2 y2:Option Addr) (ca cb ca2 cb2:Nat) (hxl:xs.length≤140737488355328) (hxl2:xt.length≤140737488355328) (w0:World) (hx:OldSl w0 [] x1 xs.length 1 (xs.map Xy)) (hx2:OldSl w0 [] x2 xt.length 1 (xt.map Xy)) (hy:OldSl w0 [] y1 ys.length 1 (ys.map Xy)) (hy2:OldSl w0 [] y2 yt.length 1 (yt.map Xy)):Sp Tryz.prog 32 [.agg #[.slice x1 xs.length ca,.slice x2 xt.length ca2],.agg #[.slice y1 ys.length cb,.slice y2 yt.length cb2]] w0 [] (RV (.bool (decide (xs=ys) && decide (xt=yt)))):=by
 refine ZC Tryz.func32 rfl Tryz.ntmps32 rfl (Own.refl _) ?_
 simp only [ZV]
 refine Zb<|Za<|Zt (Z6 rfl rfl rfl (fun b2=>?_))
 refine Zt (Z6 rfl rfl rfl (fun b3=>?_))
 refine gas rfl rfl<|gA<|Zb<|Za<|gr rfl (Zd rfl (Yu _))<|gr rfl (Zi Tryz.underlying24 rfl rfl (by exact Zp 1 rfl rfl)) ?_
 refine gr rfl (Zd rfl (Yu _))<|gr rfl (Zi Tryz.underlying24 rfl rfl (by exact Zp 0 rfl rfl)) ?_
 refine Zt (ZJ rfl (vf:=[]) (vc:=[]) rfl rfl Tryz.call74 (fun w1 ho=>Zfz xs ys x1 y1 ca cb hxl w1 (hx.at ho) (hy.at ho)) ?_)
 rintro _ _ ⟨rfl,rfl⟩
 refine Z0 (fun h9=>?_) (fun h9=>?_)
 ·refine gm rfl rfl<|Zg rfl rfl<|Zm rfl (Zd rfl (Yv _))<|Zg rfl rfl (Zm rfl (Zi Tryz.underlying24 rfl rfl (by exact Zp 1 rfl rfl)) ?_)
  refine Zg rfl rfl<|Zm rfl (Zd rfl (Yv _))<|Zg rfl rfl (Zm rfl (Zi Tryz.underlying24 rfl rfl (by exact Zp 0 rfl rfl)) ?_)
  refine Zg rfl rfl (ZJ rfl (vf:=[]) (vc:=[]) rfl rfl Tryz.call74 (fun w1 ho=>Zfz xt yt x2 y2 ca2 cb2 hxl2 w1 (hx2.at ho) (hy2.at ho)) ?_)
  rintro _ _ ⟨rfl,rfl⟩
  refine gr rfl (Zq rfl rfl)<|gas rfl rfl<|gA<|Zu<|Zy (.inl rfl) Tryz.results32 rfl [] (by decide) ?_
  rw [h9,Bool.true_and]
  exact ⟨rfl,rfl⟩
 refine gm rfl rfl<|Zj rfl rfl rfl<|Zj rfl rfl rfl<|Zj rfl rfl rfl<|Zj rfl rfl rfl<|Zj rfl rfl rfl<|gr rfl (Zn rfl rfl)<|gas rfl rfl<|gA<|Zu<|Zy (.inl rfl) Tryz.results32 rfl [] (by decide) ?_
 rw [h9]
 exact ⟨rfl,rfl⟩
namespace Ip
theorem Zeg (k w:Rg) (a b a2 b2:Option Addr) (ca cb ca2 cb2:Nat) (h1:k.1.length≤140737488355328) (h2:k.2.length≤140737488355328) (w0:World) (hx:OldSl w0 [] a k.1.length 1 (k.1.map natV)) (hx2:OldSl w0 [] a2 k.2.length 1 (k.2.map natV)) (hy:OldSl w0 [] b w.1.length 1 (w.1.map natV)) (hy2:OldSl w0 [] b2 w.2.length 1 (w.2.map natV)):Sp Tryz.prog 32 [.agg #[.slice a k.1.length ca,.slice a2 k.2.length ca2],.agg #[.slice b w.1.length cb,.slice b2 w.2.length cb2]] w0 [] (RV (.bool (decide (k.1=w.1) && decide (k.2=w.2)))):=by
 have e:=Same_ok (Y9 k.1) (Y9 w.1) (Y9 k.2) (Y9 w.2) a b a2 b2 ca cb ca2 cb2 (by rw [YA]; exact h1) (by rw [YA]; exact h2) w0 (by rw [YA,Wl]; exact hx) (by rw [YA,Wl]; exact hx2) (by rw [YA,Wl]; exact hy) (by rw [YA,Wl]; exact hy2)
 rw [YA,YA,YA,YA] at e
 have e1:decide (Y9 k.1=Y9 w.1)=decide (k.1=w.1):=by rw [decide_eq_decide]; exact ⟨Zj4,fun h=>by rw [h]⟩
 have e2:decide (Y9 k.2=Y9 w.2)=decide (k.2=w.2):=by rw [decide_eq_decide]; exact ⟨Zj4,fun h=>by rw [h]⟩
 rw [e1,e2] at e
 exact e
theorem Zc8 : I3 Tryz.prog 23 (Tryz.prog.fieldsOf 23)[0]! (Tryz.prog.fieldsOf 23)[1]! (Tryz.prog.fieldsOf 23)[2]! .i64 .i64 .i64:=⟨by kernel_rfl,by kernel_rfl,by kernel_rfl,by kernel_rfl,by kernel_rfl,by kernel_rfl,by kernel_rfl,by kernel_rfl,by kernel_rfl,by kernel_rfl,by kernel_rfl⟩
theorem Zc9 (x y:Pis):(x.lv=y.lv∧x.dv=y.dv∧x.nm=y.nm)↔x=y:=⟨fun h=>Zlp h.1 h.2.1 h.2.2,fun h=>by subst h; exact ⟨rfl,rfl,rfl⟩⟩
end Ip
theorem Zq0 (xs ys:List Pis) (a b:Option Addr) (ca cb:Nat) (hxl:xs.length≤1000000) (w0:World) (hx:OldSl w0 [] a xs.length 3 (xs.flatMap Pis.cells)) (hy:OldSl w0 [] b ys.length 3 (ys.flatMap Pis.cells)):Sp Tryz.prog 33 [.slice a xs.length ca,.slice b ys.length cb] w0 [] (RV (.bool (decide (xs=ys)))):=by
 refine ZC Tryz.func33 rfl Tryz.ntmps33 rfl (Own.refl _) ?_
 simp only [ZV]
 refine Zb<|Za<|gas rfl rfl<|gA<|Zb<|Zb<|Za<|gm rfl rfl<|gr rfl (ZA Tryz.underlying56 rfl)<|gm rfl rfl<|gr rfl (ZA Tryz.underlying56 rfl)<|gr rfl (Z4 rfl rfl) (Zw (fun h10=>?_) (fun h10=>?_))
 ·refine gA<|Zk rfl<|Zb<|Za<|gas rfl rfl<|gA<|Zu<|Zh<|Zy (.inl rfl) Tryz.results33 rfl [] (by decide) ?_
  refine ⟨congrArg Value.bool (Eq.symm ?_),rfl⟩
  exact decide_eq_false (fun e=>by subst e; omega)
 refine gA<|Zl rfl<|Zv<|Ze<|Zb<|Zb<|Za<|gas rfl rfl<|gA<|ZB<|ZZ (ι:=Nat) [(0,_),(1,_)] [] (fun k=>k≤xs.length∧xs.take k=ys.take k) (fun k Fr0=>((5,natV k)::Fr0)) (fun k Fr0=>Fr0) (fun k=>xs.length - k) 0 (⟨Nat.zero_le _,rfl⟩) ⟨rfl,rfl,rfl,trivial⟩ ⟨[],by decide,rfl⟩ ?_
 rintro k ⟨hk,htk⟩
 refine Zb<|Zb<|Za<|gm rfl rfl<|gm rfl rfl<|gr rfl (ZA Tryz.underlying56 rfl)<|gr rfl (ZX rfl rfl) (Zw (fun h14=>?_) (fun h14=>?_))
 ·obtain ⟨u,hu⟩:=get_some (show k<xs.length by omega)
  obtain ⟨v,hv⟩:=get_some (show k<ys.length by omega)
  refine gA<|Zk rfl<|Zv<|Ze<|Zb<|ZB<|Zb<|ZO [] true 8 rfl<|Zc 0 rfl rfl ⟨[],by decide,rfl⟩ (Zf (Zo rfl)) ?_
  refine Zc 1 rfl rfl ⟨[],by decide,rfl⟩ (Zf (Zo rfl)) ?_
  refine Zc 2 rfl rfl ⟨[],by decide,rfl⟩ (Zf (Z3 hx Tryz.underlying56 Yg rfl rfl (by omega) (by omega))) ?_
  refine Zc 3 rfl rfl ⟨[],by decide,rfl⟩ (Zf (Zr Tryz.underlying23 rfl Yg rfl (Vc hx (Yf Pis.cells 3 (fun _=>rfl) hu)) rfl)) ?_
  refine Zc 4 rfl rfl ⟨[],by decide,rfl⟩ (Zf (Zo rfl)) ?_
  refine Zc 5 rfl rfl ⟨[],by decide,rfl⟩ (Zf (Zo rfl)) ?_
  refine Zc 6 rfl rfl ⟨[],by decide,rfl⟩ (Zf (Z3 hy Tryz.underlying56 Yg rfl rfl (by omega) (by omega))) ?_
  refine Zc 7 rfl rfl ⟨[],by decide,rfl⟩ (Zf (Zr Tryz.underlying23 rfl Yg rfl (Vc hy (Yf Pis.cells 3 (fun _=>rfl) hv)) rfl)) ?_
  refine Zc 8 rfl rfl ⟨[],by decide,rfl⟩ (Zf (Zbi (a:=u.lv) (b:=u.dv) (m:=u.nm) (c:=v.lv) (d:=v.dv) (o:=v.nm) Zc8 (by kernel_rfl) rfl rfl)) ?_
  refine Z0 (fun h25=>?_) (fun h25=>?_)
  ·have huv:¬ u=v:=fun e=>by subst e; simp at h25
   refine ZP (.inr ⟨[],by decide,rfl⟩) ?_
   refine Ze<|Zk rfl<|Zb<|Za<|gas rfl rfl<|gA<|Zu<|Zx<|Zh<|Zh<|Zx<|Zh<|Zy (.inl rfl) Tryz.results33 rfl [] (by decide) ?_
   refine ⟨congrArg Value.bool (Eq.symm ?_),rfl⟩
   exact decide_eq_false (fun e=>by subst e; rw [hu] at hv; cases hv; exact huv rfl)
  have huv:u=v:=(Zc9 u v).1 (by simpa using h25)
  refine ZP (.inr ⟨[],by decide,rfl⟩) ?_
  refine Ze<|Zl rfl<|Zv<|ZI<|Ze<|Za<|gm rfl rfl<|gr rfl (by exact ZL (b:=1) rfl rfl (by omega)) ?_
  refine gas rfl rfl<|ZM<|Ze ?_
  exact ZR (k+1) ⟨⟨by omega,by rw [take_at hu,take_at hv,htk,huv]⟩,by omega⟩ ⟨rfl,rfl,rfl,trivial⟩ ⟨[],by decide,rfl⟩
 refine gA<|Zl rfl<|Z1<|Zs<|Zs<|ZE<|Ze<|Zb<|Za<|gas rfl rfl<|gA<|Zu<|Zy (.inl rfl) Tryz.results33 rfl [] (by decide) ?_
 refine ⟨congrArg Value.bool (Eq.symm ?_),rfl⟩
 rw [List.take_of_length_le (by omega),List.take_of_length_le (by omega)] at htk
 exact decide_eq_true htk
namespace Ip
theorem Zq1 {w0:World} {S:List Nat} {l:List HL} {a:Option Addr} {m size off f g:Nat} {cells:List Value} {v:Value} (h:OldSl w0 S a m size cells) (hv:cells[off+(f+g)]? = some v):∀ w,Own w0 S w l→w.cell? ((((adr a).add off).add f).add g)=some v :=
  fun w ho=>by rw [add_add,add_add]; exact (h.at ho).cells (off+(f+g)) v hv
theorem Zfh {l:List Ac} {k j:Nat} {a:Ac} {v:Value} (hx:l[k]? = some a) (hv:a.cells[j]? = some v):(l.flatMap Ac.cells)[k * 8+j]? = some v:=by
 have hlt:k<l.length:=(List.getElem?_eq_some_iff.1 hx).1
 have hj:j<8:=(List.getElem?_eq_some_iff.1 hv).1
 rw [flat_get Ac.cells 8 (fun _=>rfl) a l k j hlt hj,show l.getD k a=a by simp [List.getD,hx]]
 exact hv
end Ip
theorem great_ok (la:Option Addr) (lc:Nat) (l:List Ac) (m:Nat) (hm:m≤1000) (hll:l.length≤140737488355328) (w0:World) (hl:AcsIn la l w0 []):Sp Tryz.prog 9 [.slice la l.length lc,natV m] w0 [] (fun v L=>∃ b,v=.bool b∧L=[]∧(b=false→l.length≤m)):=by
 refine ZC Tryz.func9 rfl Tryz.ntmps9 rfl (Own.refl _) ?_
 simp only [ZV]
 refine Zb<|Za<|gas rfl rfl<|gA<|Zb<|Zb<|Za<|gm rfl rfl<|gr rfl (ZA Tryz.underlying30 rfl)<|gm rfl rfl<|gr rfl (Yk rfl rfl) (Zw (fun h9=>?_) (fun h9=>?_))
 ·refine gA<|Zk rfl<|Zb<|Za<|gas rfl rfl<|gA<|Zu<|Zh<|Zy (.inl rfl) Tryz.results9 rfl [] (by decide) ?_
  exact ⟨true,rfl,rfl,fun h=>by cases h⟩
 refine gA<|Zl rfl<|Zv<|Ze<|Zb<|Zb<|Za<|gas rfl rfl<|gA<|ZB<|ZZ (ι:=Nat) [(0,_)] [] (fun k=>k≤l.length) (fun k Fr0=>((5,natV k)::Fr0)) (fun k Fr0=>Fr0) (fun k=>l.length - k) 0 (Nat.zero_le _) ⟨rfl,rfl,trivial⟩ ⟨[],by decide,rfl⟩ ?_
 rintro k hk
 refine Zb<|Zb<|Za<|gm rfl rfl<|gm rfl rfl<|gr rfl (ZA Tryz.underlying30 rfl)<|gr rfl (ZX rfl rfl) (Zw (fun h13=>?_) (fun h13=>?_))
 ·obtain ⟨a,hx⟩:=get_some (show k<l.length by omega)
  refine gA<|Zk rfl<|Zv<|Ze<|Zb<|ZB<|Zb<|Za<|gm rfl rfl<|gm rfl rfl<|gr rfl (Z3 hl.t Tryz.underlying30 Zme rfl rfl (by omega) (by omega)) ?_
  refine gr rfl (Zd rfl (VE _))<|gr rfl (Zd rfl (Yu _))<|gr rfl (Zi Tryz.underlying24 rfl rfl (Zq1 hl.t (Zfh hx (j:=4) rfl)))<|gr rfl (ZA Tryz.underlying24 rfl)<|gr rfl (Yk rfl rfl) (Zw (fun h23=>?_) (fun h23=>?_))
  ·refine gm rfl rfl<|Zj rfl rfl rfl<|Zj rfl rfl rfl<|Zj rfl rfl rfl<|Zj rfl rfl rfl<|Zj rfl rfl rfl<|Zj rfl rfl rfl<|Zj rfl rfl rfl<|Zj rfl rfl rfl<|gr rfl (Zq rfl rfl)<|gA<|Zk rfl<|Zb<|Za<|gas rfl rfl<|gA<|Zu<|Zx<|Zh<|Zh<|Zx<|Zh<|Zy (.inl rfl) Tryz.results9 rfl [] (by decide) ?_
   exact ⟨true,rfl,rfl,fun h=>by cases h⟩
  refine gm rfl rfl<|Zg rfl rfl<|Zm rfl (Zo rfl)<|Zg rfl rfl<|Zm rfl (Zo rfl)<|Zg rfl rfl (Zm rfl (Z3 hl.t Tryz.underlying30 Zme rfl rfl (by omega) (by omega)) ?_)
  refine Zg rfl rfl<|Zm rfl (Zd rfl (VE _))<|Zg rfl rfl<|Zm rfl (Zd rfl (Yv _))<|Zg rfl rfl<|Zm rfl (Zi Tryz.underlying24 rfl rfl (Zq1 hl.t (Zfh hx (j:=5) rfl)))<|Zg rfl rfl<|Zm rfl (ZA Tryz.underlying24 rfl)<|Zg rfl rfl (Zm rfl (Yk rfl rfl) (Zw (fun h32=>?_) (fun h32=>?_)))
  ·refine gr rfl (Zn rfl rfl)<|gA<|Zk rfl<|Zb<|Za<|gas rfl rfl<|gA<|Zu<|Zx<|Zh<|Zh<|Zx<|Zh<|Zy (.inl rfl) Tryz.results9 rfl [] (by decide) ?_
   exact ⟨true,rfl,rfl,fun h=>by cases h⟩
  refine gr rfl (Zn rfl rfl)<|gA<|Zl rfl<|Zv<|ZI<|Ze<|Za<|gm rfl rfl<|gr rfl (by exact ZL (b:=1) rfl rfl (by omega)) ?_
  refine gas rfl rfl<|ZM<|Ze ?_
  exact ZR (k+1) ⟨by omega,by omega⟩ ⟨rfl,rfl,trivial⟩ ⟨[],by decide,rfl⟩
 refine gA<|Zl rfl<|Z1<|Zs<|Zs<|ZE<|Ze<|Zb<|Za<|gas rfl rfl<|gA<|Zu<|Zy (.inl rfl) Tryz.results9 rfl [] (by decide) ?_
 exact ⟨false,rfl,rfl,fun _=>by omega⟩
namespace Ip
theorem fresh_fi {n:Nat} (h4:4≤n) (h64:n≤64):FI (flNew (List.replicate (256 * n) 255)).b 0 (fun _=>none)∧(∃ q,q<(flNew (List.replicate (256 * n) 255)).b.length / 256∧Jt (flNew (List.replicate (256 * n) 255)).b q):=by
 have hF:=Zju h4 h64
 have hl:=hF.len
 have hall:∀ z∈(flNew (List.replicate (256 * n) 255)).b,z=255:=fun z hz=>List.eq_of_mem_replicate hz
 refine ⟨fi_new hall (by rw [hl]; omega) (by rw [hl]; omega),0,by rw [hl]; omega,Zh8 (fun z hz=>by rw [hall z hz]; decide) fun i hi=>?_⟩
 exact hall _ (Zpb (by rw [hl]; omega))
structure SS.New (q:SS) (n:Nat):Prop where
  ok:q.Ok (fun _=>none) 1
  len:q.f.b.length=256 * n
  left:q.f.left = -1
  st:q.f.st=1
  m0:q.m.length=0
end Ip
theorem Zn2 (n:Nat) (hn4:4≤n) (hn64:n≤64) (w0:World):Sp Tryz.prog 11 [natV n] w0 [] (fun v L=>∃ q:SS,v=.tuple #[.pointer (some ⟨q.bf,0,none⟩),.pointer (some ⟨q.bs,0,none⟩)]∧q.New n∧L=q.hl):=by
 refine ZC Tryz.func11 rfl Tryz.ntmps11 rfl (Own.refl _) ?_
 simp only [ZV]
 refine Zb<|Za<|gas rfl rfl<|gas rfl rfl<|gA<|Zb<|Za<|gm rfl rfl<|Zt (ZJ rfl (vf:=[]) (vc:=[]) rfl rfl Tryz.call34 (fun w1 ho=>New_ok n hn4 hn64 w1) ?_)
 rintro _ _ ⟨bf,rb,cb,rfl,rfl⟩
 refine gm rfl rfl<|gr rfl (ZD rfl rfl)<|gr rfl (ZD rfl rfl)<|gas rfl rfl<|gas rfl rfl<|gA<|Zb<|Za<|gr rfl (Zo rfl) ?_
 obtain ⟨hfi,hsp⟩:=fresh_fi hn4 hn64
 have hF:=Zju hn4 hn64
 refine Zt (Yi [0,1,2] [] rfl (vf:=[]) (vc:=[]) rfl rfl Tryz.call28 (by decide) rfl (fun w how hc=>OpenG_ok _ hF.ok bf rb cb none 0 0 _ hfi hsp (Zj2 _) _ w hc (show (0:Nat)+1<4611686018427387904 by decide) (by rw [hF.er]; decide) hF.dn) ?_)
 rintro _ _ (⟨bs,bm,m,nb,T,num,f2,bk,rfl,hg,rfl⟩ | ⟨f2,rfl,hT,rfl⟩)
 ·refine Jh [] (SS.mk f2 bs bf rb cb none 0 1 bm num bk m nb T).hl []<|gm rfl rfl<|gr rfl (ZD rfl rfl)<|gr rfl (ZD rfl rfl)<|gas rfl rfl<|gas rfl rfl<|gA<|Zb<|Zb<|Za<|gm rfl rfl<|gr rfl (Z4 rfl rfl) (Zw (fun h19=>?_) (fun h19=>?_))
  ·exact absurd rfl h19
  refine gm rfl rfl<|Zg rfl rfl<|Zm rfl (Zo rfl)<|Zg rfl rfl (Zm rfl (Z4 rfl rfl) (Zw (fun h22=>?_) (fun h22=>?_)))
  ·exact absurd rfl h22
  refine gr rfl (Zn rfl rfl)<|gA<|Zl rfl<|Zv<|Ze<|Zb<|Za<|gm rfl rfl<|gm rfl rfl<|gas rfl rfl<|gas rfl rfl<|gA<|Zu<|XE (.inl rfl) Tryz.results11 rfl rfl (ZS (A:=[]) (B:=[]) (T:=(SS.mk f2 bs bf rb cb none 0 1 bm num bk m nb T).hl) [] 0 (by decide) (by decide) rfl rfl) ?_
  refine ⟨SS.mk f2 bs bf rb cb none 0 1 bm num bk m nb T,rfl,⟨⟨hg.st,?_,?_,?_⟩,?_,?_,?_,?_⟩,rfl⟩
  ·show f2.pr≤100000 * 1
   rw [hg.pr,hF.pr]; decide
  ·show f2.er≤1
   have:=hg.er
   rw [hF.er] at this; exact this
  ·show num≤1
   have:=hg.num; omega
  ·show f2.b.length=256 * n
   rw [hg.len]; exact hF.len
  ·exact hg.no hF.left
  ·show f2.st=1
   rw [hg.hst]; rfl
  ·have:=Zj2 0 _ _ _ _ hg.st.si
   simpa [plain] using this
 exact absurd hF.left hT.no
end Go.Proofs.YthcbcdjkfefnlaaGreatDoor
namespace Go.Proofs.YthcbcdjkfefnlaaGreatDoor
open Go.Gv
open Go.RowKit
open Go.Sn hiding En keysP keysP_len stop_ok
open Go.Ps
open Iv Sx Ip
open Go.Deep Go.ChangeShapes Go.WideShapes
namespace Ip
theorem len5 {cs:List Value} (h:cs.length=5):∃ a b c d e,cs=[a,b,c,d,e]:=by
 match cs,h with
 | [a,b,c,d,e],_=>exact ⟨a,b,c,d,e,rfl⟩
theorem len8 {cs:List Value} (h:cs.length=8):∃ a b c d e f g i,cs=[a,b,c,d,e,f,g,i]:=by
 match cs,h with
 | [a,b,c,d,e,f,g,i],_=>exact ⟨a,b,c,d,e,f,g,i,rfl⟩
section
variable {H:Type} {enc:TypeId × Value→H} {W:World} {base:Nat} {sp:Nat→Bool} {held:Bool}
theorem Zn3 {n:Nat} {u v:Value} {x:DataW H × List MemPlace} (h:DataW.trod enc Tryz.prog W base sp held n 94 [u,v]=some x) (hw:∀ b∈x.1.weights Tryz.prog 94,b≤reachBytes):∃ p q:Int,[u,v]=[.int .i64 p,.int .i64 q]:=by
 obtain ⟨k,hl,hf⟩:=fld Tryz.underlying94 h hw
 obtain ⟨y0,t0,_⟩:=hf 0 _ 1 rfl (by kernel_rfl)
 obtain ⟨y1,t1,_⟩:=hf 1 _ 1 rfl (by kernel_rfl)
 obtain ⟨p,rfl⟩:=WS Tryz.underlying3 (show DataW.trod enc Tryz.prog W base sp held k 3 [u]=some y0 from t0)
 obtain ⟨q,rfl⟩:=WS Tryz.underlying3 (show DataW.trod enc Tryz.prog W base sp held k 3 [v]=some y1 from t1)
 exact ⟨p,q,rfl⟩
theorem openDv {n:Nat} {cs:List Value} {x:DataW H × List MemPlace} (h:DataW.trod enc Tryz.prog W base sp held n 109 cs=some x) (hw:∀ b∈x.1.weights Tryz.prog 109,b≤reachBytes):∃ g:Dv,cs=g.cells∧g.name.size≤140737488355328:=by
 obtain ⟨k,hl,hf⟩:=fld Tryz.underlying109 h hw
 rw [show Tryz.prog.cellsOf 109=3 by kernel_rfl] at hl
 obtain ⟨u0,u1,u2,rfl⟩:=len3 hl
 obtain ⟨y0,t0,w0⟩:=hf 0 _ 1 rfl (by kernel_rfl)
 replace t0:DataW.trod enc Tryz.prog W base sp held k 9 [u0]=some y0:=t0
 obtain ⟨z0,rfl,b0⟩:=leafS Tryz.underlying9 t0 w0
 obtain ⟨y1,t1,w1⟩:=hf 1 _ 1 rfl (by kernel_rfl)
 replace t1:DataW.trod enc Tryz.prog W base sp held k 3 [u1]=some y1:=t1
 obtain ⟨z1,rfl⟩:=WS Tryz.underlying3 t1
 obtain ⟨y2,t2,w2⟩:=hf 2 _ 1 rfl (by kernel_rfl)
 replace t2:DataW.trod enc Tryz.prog W base sp held k 3 [u2]=some y2:=t2
 obtain ⟨z2,rfl⟩:=WS Tryz.underlying3 t2
 exact ⟨⟨z0,z1,z2⟩,rfl,b0⟩
theorem openRk {n:Nat} {cs:List Value} {x:DataW H × List MemPlace} (h:DataW.trod enc Tryz.prog W base sp held n 111 cs=some x) (hw:∀ b∈x.1.weights Tryz.prog 111,b≤reachBytes):∃ g:Rk,cs=g.cells∧g.name.size≤140737488355328:=by
 obtain ⟨k,hl,hf⟩:=fld Tryz.underlying111 h hw
 rw [show Tryz.prog.cellsOf 111=6 by kernel_rfl] at hl
 obtain ⟨u0,u1,u2,u3,u4,u5,rfl⟩:=len6 hl
 obtain ⟨y0,t0,w0⟩:=hf 0 _ 1 rfl (by kernel_rfl)
 replace t0:DataW.trod enc Tryz.prog W base sp held k 9 [u0]=some y0:=t0
 obtain ⟨z0,rfl,b0⟩:=leafS Tryz.underlying9 t0 w0
 obtain ⟨y1,t1,w1⟩:=hf 1 _ 1 rfl (by kernel_rfl)
 replace t1:DataW.trod enc Tryz.prog W base sp held k 3 [u1]=some y1:=t1
 obtain ⟨z1,rfl⟩:=WS Tryz.underlying3 t1
 obtain ⟨y2,t2,w2⟩:=hf 2 _ 2 rfl (by kernel_rfl)
 replace t2:DataW.trod enc Tryz.prog W base sp held k 94 [u2,u3]=some y2:=t2
 obtain ⟨p2,q2,e2⟩:=Zn3 t2 w2
 simp only [List.cons.injEq,and_true] at e2
 obtain ⟨rfl,rfl⟩:=e2
 obtain ⟨y3,t3,w3⟩:=hf 3 _ 1 rfl (by kernel_rfl)
 replace t3:DataW.trod enc Tryz.prog W base sp held k 3 [u4]=some y3:=t3
 obtain ⟨z3,rfl⟩:=WS Tryz.underlying3 t3
 obtain ⟨y4,t4,w4⟩:=hf 4 _ 1 rfl (by kernel_rfl)
 replace t4:DataW.trod enc Tryz.prog W base sp held k 3 [u5]=some y4:=t4
 obtain ⟨z4,rfl⟩:=WS Tryz.underlying3 t4
 exact ⟨⟨z0,z1,p2,q2,z3,z4⟩,rfl,b0⟩
theorem openPt {n:Nat} {cs:List Value} {x:DataW H × List MemPlace} (h:DataW.trod enc Tryz.prog W base sp held n 96 cs=some x) (hw:∀ b∈x.1.weights Tryz.prog 96,b≤reachBytes):∃ g:Pt,cs=g.cells∧True:=by
 obtain ⟨k,hl,hf⟩:=fld Tryz.underlying96 h hw
 rw [show Tryz.prog.cellsOf 96=4 by kernel_rfl] at hl
 obtain ⟨u0,u1,u2,u3,rfl⟩:=len4 hl
 obtain ⟨y0,t0,w0⟩:=hf 0 _ 1 rfl (by kernel_rfl)
 replace t0:DataW.trod enc Tryz.prog W base sp held k 3 [u0]=some y0:=t0
 obtain ⟨z0,rfl⟩:=WS Tryz.underlying3 t0
 obtain ⟨y1,t1,w1⟩:=hf 1 _ 1 rfl (by kernel_rfl)
 replace t1:DataW.trod enc Tryz.prog W base sp held k 3 [u1]=some y1:=t1
 obtain ⟨z1,rfl⟩:=WS Tryz.underlying3 t1
 obtain ⟨y2,t2,w2⟩:=hf 2 _ 1 rfl (by kernel_rfl)
 replace t2:DataW.trod enc Tryz.prog W base sp held k 3 [u2]=some y2:=t2
 obtain ⟨z2,rfl⟩:=WS Tryz.underlying3 t2
 obtain ⟨y3,t3,w3⟩:=hf 3 _ 1 rfl (by kernel_rfl)
 replace t3:DataW.trod enc Tryz.prog W base sp held k 3 [u3]=some y3:=t3
 obtain ⟨z3,rfl⟩:=WS Tryz.underlying3 t3
 exact ⟨⟨z0,z1,z2,z3⟩,rfl,trivial⟩
theorem openPts {n:Nat} {cs:List Value} {x:DataW H × List MemPlace} (h:DataW.trod enc Tryz.prog W base sp held n 97 cs=some x) (hw:∀ b∈x.1.weights Tryz.prog 97,b≤reachBytes) :
    ∃ (a:Option Addr) (gs:List Pt) (cp:Nat),cs=[.slice a gs.length cp]∧OldSl W [] a gs.length 4 (gs.flatMap Pt.cells)∧gs.length≤140737488355328∧gs.length≤cp∧∀ g∈gs,(fun _=>True) g :=
  Za6 Pt.cells (fun _=>True) 4 97 96 32 (fun _=>rfl) (by decide) Tryz.underlying97 (by kernel_rfl) (by kernel_rfl) (by decide) (fun n cs x h hw=>openPt h hw) h hw
def StG (W:World) (g:St):Prop:=g.name.size≤140737488355328∧OldSl W [] g.pa g.ps.length 4 (g.ps.flatMap Pt.cells)∧g.ps.length≤140737488355328∧g.ps.length≤g.pc
theorem openSt {n:Nat} {cs:List Value} {x:DataW H × List MemPlace} (h:DataW.trod enc Tryz.prog W base sp held n 99 cs=some x) (hw:∀ b∈x.1.weights Tryz.prog 99,b≤reachBytes):∃ g:St,cs=g.cells∧StG W g:=by
 obtain ⟨k,hl,hf⟩:=fld Tryz.underlying99 h hw
 rw [show Tryz.prog.cellsOf 99=5 by kernel_rfl] at hl
 obtain ⟨u0,u1,u2,u3,u4,rfl⟩:=len5 hl
 obtain ⟨y0,t0,w0⟩:=hf 0 _ 1 rfl (by kernel_rfl)
 replace t0:DataW.trod enc Tryz.prog W base sp held k 9 [u0]=some y0:=t0
 obtain ⟨z0,rfl,b0⟩:=leafS Tryz.underlying9 t0 w0
 obtain ⟨y1,t1,w1⟩:=hf 1 _ 1 rfl (by kernel_rfl)
 replace t1:DataW.trod enc Tryz.prog W base sp held k 3 [u1]=some y1:=t1
 obtain ⟨z1,rfl⟩:=WS Tryz.underlying3 t1
 obtain ⟨y2,t2,w2⟩:=hf 2 _ 2 rfl (by kernel_rfl)
 replace t2:DataW.trod enc Tryz.prog W base sp held k 94 [u2,u3]=some y2:=t2
 obtain ⟨p2,q2,e2⟩:=Zn3 t2 w2
 simp only [List.cons.injEq,and_true] at e2
 obtain ⟨rfl,rfl⟩:=e2
 obtain ⟨y3,t3,w3⟩:=hf 3 _ 1 rfl (by kernel_rfl)
 replace t3:DataW.trod enc Tryz.prog W base sp held k 97 [u4]=some y3:=t3
 obtain ⟨a3,l3,c3,e3,s3,m3,o3,g3⟩:=openPts t3 w3
 simp only [List.cons.injEq,and_true] at e3
 subst e3
 exact ⟨⟨z0,z1,p2,q2,a3,c3,l3⟩,rfl,b0,s3,m3,o3⟩
theorem openCp {n:Nat} {cs:List Value} {x:DataW H × List MemPlace} (h:DataW.trod enc Tryz.prog W base sp held n 113 cs=some x) (hw:∀ b∈x.1.weights Tryz.prog 113,b≤reachBytes):∃ g:Cp,cs=g.cells∧g.name.size≤140737488355328:=by
 obtain ⟨k,hl,hf⟩:=fld Tryz.underlying113 h hw
 rw [show Tryz.prog.cellsOf 113=6 by kernel_rfl] at hl
 obtain ⟨u0,u1,u2,u3,u4,u5,rfl⟩:=len6 hl
 obtain ⟨y0,t0,w0⟩:=hf 0 _ 1 rfl (by kernel_rfl)
 replace t0:DataW.trod enc Tryz.prog W base sp held k 9 [u0]=some y0:=t0
 obtain ⟨z0,rfl,b0⟩:=leafS Tryz.underlying9 t0 w0
 obtain ⟨y1,t1,w1⟩:=hf 1 _ 1 rfl (by kernel_rfl)
 replace t1:DataW.trod enc Tryz.prog W base sp held k 3 [u1]=some y1:=t1
 obtain ⟨z1,rfl⟩:=WS Tryz.underlying3 t1
 obtain ⟨y2,t2,w2⟩:=hf 2 _ 1 rfl (by kernel_rfl)
 replace t2:DataW.trod enc Tryz.prog W base sp held k 3 [u2]=some y2:=t2
 obtain ⟨z2,rfl⟩:=WS Tryz.underlying3 t2
 obtain ⟨y3,t3,w3⟩:=hf 3 _ 1 rfl (by kernel_rfl)
 replace t3:DataW.trod enc Tryz.prog W base sp held k 3 [u3]=some y3:=t3
 obtain ⟨z3,rfl⟩:=WS Tryz.underlying3 t3
 obtain ⟨y4,t4,w4⟩:=hf 4 _ 1 rfl (by kernel_rfl)
 replace t4:DataW.trod enc Tryz.prog W base sp held k 3 [u4]=some y4:=t4
 obtain ⟨z4,rfl⟩:=WS Tryz.underlying3 t4
 obtain ⟨y5,t5,w5⟩:=hf 5 _ 1 rfl (by kernel_rfl)
 replace t5:DataW.trod enc Tryz.prog W base sp held k 4 [u5]=some y5:=t5
 obtain ⟨z5,rfl⟩:=leafB Tryz.underlying4 t5
 exact ⟨⟨z0,z1,z2,z3,z4,z5⟩,rfl,b0⟩
theorem openDvs {n:Nat} {cs:List Value} {x:DataW H × List MemPlace} (h:DataW.trod enc Tryz.prog W base sp held n 40 cs=some x) (hw:∀ b∈x.1.weights Tryz.prog 40,b≤reachBytes) :
    ∃ (a:Option Addr) (gs:List Dv) (cp:Nat),cs=[.slice a gs.length cp]∧OldSl W [] a gs.length 3 (gs.flatMap Dv.cells)∧gs.length≤140737488355328∧gs.length≤cp∧∀ g∈gs,(fun g:Dv=>g.name.size≤140737488355328) g :=
  Za6 Dv.cells (fun g:Dv=>g.name.size≤140737488355328) 3 40 109 32 (fun _=>rfl) (by decide) Tryz.underlying40 (by kernel_rfl) (by kernel_rfl) (by decide) (fun n cs x h hw=>openDv h hw) h hw
theorem openRks {n:Nat} {cs:List Value} {x:DataW H × List MemPlace} (h:DataW.trod enc Tryz.prog W base sp held n 41 cs=some x) (hw:∀ b∈x.1.weights Tryz.prog 41,b≤reachBytes) :
    ∃ (a:Option Addr) (gs:List Rk) (cp:Nat),cs=[.slice a gs.length cp]∧OldSl W [] a gs.length 6 (gs.flatMap Rk.cells)∧gs.length≤140737488355328∧gs.length≤cp∧∀ g∈gs,(fun g:Rk=>g.name.size≤140737488355328) g :=
  Za6 Rk.cells (fun g:Rk=>g.name.size≤140737488355328) 6 41 111 56 (fun _=>rfl) (by decide) Tryz.underlying41 (by kernel_rfl) (by kernel_rfl) (by decide) (fun n cs x h hw=>openRk h hw) h hw
theorem openSts {n:Nat} {cs:List Value} {x:DataW H × List MemPlace} (h:DataW.trod enc Tryz.prog W base sp held n 42 cs=some x) (hw:∀ b∈x.1.weights Tryz.prog 42,b≤reachBytes) :
    ∃ (a:Option Addr) (gs:List St) (cp:Nat),cs=[.slice a gs.length cp]∧OldSl W [] a gs.length 5 (gs.flatMap St.cells)∧gs.length≤140737488355328∧gs.length≤cp∧∀ g∈gs,(StG W) g :=
  Za6 St.cells (StG W) 5 42 99 64 (fun _=>rfl) (by decide) Tryz.underlying42 (by kernel_rfl) (by kernel_rfl) (by decide) (fun n cs x h hw=>openSt h hw) h hw
theorem openCps {n:Nat} {cs:List Value} {x:DataW H × List MemPlace} (h:DataW.trod enc Tryz.prog W base sp held n 43 cs=some x) (hw:∀ b∈x.1.weights Tryz.prog 43,b≤reachBytes) :
    ∃ (a:Option Addr) (gs:List Cp) (cp:Nat),cs=[.slice a gs.length cp]∧OldSl W [] a gs.length 6 (gs.flatMap Cp.cells)∧gs.length≤140737488355328∧gs.length≤cp∧∀ g∈gs,(fun g:Cp=>g.name.size≤140737488355328) g :=
  Za6 Cp.cells (fun g:Cp=>g.name.size≤140737488355328) 6 43 113 56 (fun _=>rfl) (by decide) Tryz.underlying43 (by kernel_rfl) (by kernel_rfl) (by decide) (fun n cs x h hw=>openCp h hw) h hw
theorem openOrg {n:Nat} {cs:List Value} {x:DataW H × List MemPlace} (h:DataW.trod enc Tryz.prog W base sp held n 45 cs=some x) (hw:∀ b∈x.1.weights Tryz.prog 45,b≤reachBytes):∃ g:Org,cs=g.cells∧OrgIn g W []∧OrgLe g:=by
 obtain ⟨k,hl,hf⟩:=fld Tryz.underlying45 h hw
 rw [show Tryz.prog.cellsOf 45=4 by kernel_rfl] at hl
 obtain ⟨u0,u1,u2,u3,rfl⟩:=len4 hl
 obtain ⟨y0,t0,w0⟩:=hf 0 _ 1 rfl (by kernel_rfl)
 replace t0:DataW.trod enc Tryz.prog W base sp held k 40 [u0]=some y0:=t0
 obtain ⟨a0,l0,c0,e0,s0,m0,o0,g0⟩:=openDvs t0 w0
 simp only [List.cons.injEq,and_true] at e0
 subst e0
 obtain ⟨y1,t1,w1⟩:=hf 1 _ 1 rfl (by kernel_rfl)
 replace t1:DataW.trod enc Tryz.prog W base sp held k 41 [u1]=some y1:=t1
 obtain ⟨a1,l1,c1,e1,s1,m1,o1,g1⟩:=openRks t1 w1
 simp only [List.cons.injEq,and_true] at e1
 subst e1
 obtain ⟨y2,t2,w2⟩:=hf 2 _ 1 rfl (by kernel_rfl)
 replace t2:DataW.trod enc Tryz.prog W base sp held k 42 [u2]=some y2:=t2
 obtain ⟨a2,l2,c2,e2,s2,m2,o2,g2⟩:=openSts t2 w2
 simp only [List.cons.injEq,and_true] at e2
 subst e2
 obtain ⟨y3,t3,w3⟩:=hf 3 _ 1 rfl (by kernel_rfl)
 replace t3:DataW.trod enc Tryz.prog W base sp held k 43 [u3]=some y3:=t3
 obtain ⟨a3,l3,c3,e3,s3,m3,o3,g3⟩:=openCps t3 w3
 simp only [List.cons.injEq,and_true] at e3
 subst e3
 exact ⟨⟨a0,c0,l0,a1,c1,l1,a2,c2,l2,a3,c3,l3⟩,rfl,⟨s0,s1,s2,s3,fun x hx=>(g2 x hx).2.1⟩,⟨m0,m1,m2,m3,fun x hx=>(g2 x hx).2.2.1,fun x hx=>(g2 x hx).2.2.2,g0,g1,fun x hx=>(g2 x hx).1,g3⟩⟩
theorem Zkc {n:Nat} {cs:List Value} {x:DataW H × List MemPlace} (h:DataW.trod enc Tryz.prog W base sp held n 24 cs=some x) (hw:∀ b∈x.1.weights Tryz.prog 24,b≤reachBytes) :
    ∃ (a:Option Addr) (gs:List Int) (cp:Nat),cs=[.slice a gs.length cp]∧OldSl W [] a gs.length 1 (gs.flatMap (fun z:Int=>[Xy z]))∧gs.length≤140737488355328∧gs.length≤cp∧∀ g∈gs,(fun _=>True) g :=
  Za6 (fun z:Int=>[Xy z]) (fun _=>True) 1 24 3 8 (fun _=>rfl) (by decide) Tryz.underlying24 (by kernel_rfl) (by kernel_rfl) (by decide) (fun n cs x h hw=>by
    obtain ⟨z,e,_⟩:=DataW.trod_int Tryz.underlying3 h
    exact ⟨z,e,trivial⟩) h hw
theorem openPis {n:Nat} {cs:List Value} {x:DataW H × List MemPlace} (h:DataW.trod enc Tryz.prog W base sp held n 23 cs=some x) (hw:∀ b∈x.1.weights Tryz.prog 23,b≤reachBytes):∃ g:Pis,cs=Pis.cells g:=by
 obtain ⟨k,hl,hf⟩:=fld Tryz.underlying23 h hw
 rw [show Tryz.prog.cellsOf 23=3 by kernel_rfl] at hl
 obtain ⟨u0,u1,u2,rfl⟩:=len3 hl
 obtain ⟨y0,t0,w0⟩:=hf 0 _ 1 rfl (by kernel_rfl)
 replace t0:DataW.trod enc Tryz.prog W base sp held k 3 [u0]=some y0:=t0
 obtain ⟨z0,rfl⟩:=WS Tryz.underlying3 t0
 obtain ⟨y1,t1,w1⟩:=hf 1 _ 1 rfl (by kernel_rfl)
 replace t1:DataW.trod enc Tryz.prog W base sp held k 3 [u1]=some y1:=t1
 obtain ⟨z1,rfl⟩:=WS Tryz.underlying3 t1
 obtain ⟨y2,t2,w2⟩:=hf 2 _ 1 rfl (by kernel_rfl)
 replace t2:DataW.trod enc Tryz.prog W base sp held k 3 [u2]=some y2:=t2
 obtain ⟨z2,rfl⟩:=WS Tryz.underlying3 t2
 exact ⟨⟨z0,z1,z2⟩,rfl⟩
theorem openReg {n:Nat} {cs:List Value} {x:DataW H × List MemPlace} (h:DataW.trod enc Tryz.prog W base sp held n 26 cs=some x) (hw:∀ b∈x.1.weights Tryz.prog 26,b≤reachBytes):∃ (b1:Option Addr) (e1:Nat) (ss:List Int) (b2:Option Addr) (e2:Nat) (ds:List Int),cs=[.slice b1 ss.length e1,.slice b2 ds.length e2]∧OldSl W [] b1 ss.length 1 (ss.map Xy)∧OldSl W [] b2 ds.length 1 (ds.map Xy)∧ss.length≤140737488355328∧ds.length≤140737488355328:=by
 obtain ⟨k,hl,hf⟩:=fld Tryz.underlying26 h hw
 rw [show Tryz.prog.cellsOf 26=2 by kernel_rfl] at hl
 obtain ⟨u0,u1,rfl⟩:=len2 hl
 obtain ⟨y0,t0,w0⟩:=hf 0 _ 1 rfl (by kernel_rfl)
 replace t0:DataW.trod enc Tryz.prog W base sp held k 24 [u0]=some y0:=t0
 obtain ⟨a0,l0,c0,e0,s0,m0,o0,g0⟩:=Zkc t0 w0
 simp only [List.cons.injEq,and_true] at e0
 subst e0
 obtain ⟨y1,t1,w1⟩:=hf 1 _ 1 rfl (by kernel_rfl)
 replace t1:DataW.trod enc Tryz.prog W base sp held k 24 [u1]=some y1:=t1
 obtain ⟨a1,l1,c1,e1,s1,m1,o1,g1⟩:=Zkc t1 w1
 simp only [List.cons.injEq,and_true] at e1
 subst e1
 exact ⟨a0,c0,l0,a1,c1,l1,rfl,by rw [← Znn Xy]; exact s0,by rw [← Znn Xy]; exact s1,m0,m1⟩
theorem openAct {n:Nat} {cs:List Value} {x:DataW H × List MemPlace} (h:DataW.trod enc Tryz.prog W base sp held n 28 cs=some x) (hw:∀ b∈x.1.weights Tryz.prog 28,b≤reachBytes):∃ g:Ac,cs=g.cells∧AcIn g W []∧AcLe g:=by
 obtain ⟨k,hl,hf⟩:=fld Tryz.underlying28 h hw
 rw [show Tryz.prog.cellsOf 28=8 by kernel_rfl] at hl
 obtain ⟨u0,u1,u2,u3,u4,u5,u6,u7,rfl⟩:=len8 hl
 obtain ⟨y0,t0,w0⟩:=hf 0 _ 1 rfl (by kernel_rfl)
 replace t0:DataW.trod enc Tryz.prog W base sp held k 5 [u0]=some y0:=t0
 obtain ⟨z0,rfl,b0⟩:=leafU8 Tryz.underlying5 t0
 obtain ⟨y1,t1,w1⟩:=hf 1 _ 3 rfl (by kernel_rfl)
 replace t1:DataW.trod enc Tryz.prog W base sp held k 23 [u1,u2,u3]=some y1:=t1
 obtain ⟨p1,e1x⟩:=openPis t1 w1
 simp only [Pis.cells,List.cons.injEq,and_true] at e1x
 obtain ⟨rfl,rfl,rfl⟩:=e1x
 obtain ⟨y2,t2,w2⟩:=hf 2 _ 2 rfl (by kernel_rfl)
 replace t2:DataW.trod enc Tryz.prog W base sp held k 26 [u4,u5]=some y2:=t2
 obtain ⟨b2,e2,ss2,d2,f2,ds2,e2x,o2,q2,m2,n2⟩:=openReg t2 w2
 simp only [Pis.cells,List.cons.injEq,and_true] at e2x
 obtain ⟨rfl,rfl⟩:=e2x
 obtain ⟨y3,t3,w3⟩:=hf 3 _ 1 rfl (by kernel_rfl)
 replace t3:DataW.trod enc Tryz.prog W base sp held k 3 [u6]=some y3:=t3
 obtain ⟨z3,rfl⟩:=WS Tryz.underlying3 t3
 obtain ⟨y4,t4,w4⟩:=hf 4 _ 1 rfl (by kernel_rfl)
 replace t4:DataW.trod enc Tryz.prog W base sp held k 3 [u7]=some y4:=t4
 obtain ⟨z4,rfl⟩:=WS Tryz.underlying3 t4
 exact ⟨⟨z0,p1,b2,e2,ss2,d2,f2,ds2,z3,z4⟩,rfl,⟨o2,q2⟩,⟨b0,m2,n2⟩⟩
def AcG (W:World) (g:Ac):Prop:=AcIn g W []∧AcLe g
theorem openActs {n:Nat} {cs:List Value} {x:DataW H × List MemPlace} (h:DataW.trod enc Tryz.prog W base sp held n 30 cs=some x) (hw:∀ b∈x.1.weights Tryz.prog 30,b≤reachBytes) :
    ∃ (a:Option Addr) (gs:List Ac) (cp:Nat),cs=[.slice a gs.length cp]∧OldSl W [] a gs.length 8 (gs.flatMap Ac.cells)∧gs.length≤140737488355328∧gs.length≤cp∧∀ g∈gs,(AcG W) g :=
  Za6 Ac.cells (AcG W) 8 30 28 96 (fun _=>rfl) (by decide) Tryz.underlying30 (by kernel_rfl) (by kernel_rfl) (by decide) (fun n cs x h hw=>openAct h hw) h hw
end
end Ip
end Go.Proofs.YthcbcdjkfefnlaaGreatDoor
namespace Go.Proofs.YthcbcdjkfefnlaaGreatDoor
open Go.Gv
open Go.RowKit
open Go.Sn hiding En keysP keysP_len stop_ok
open Go.Ps
open Iv Sx Ip
open Go.ChangeShapes Go.WideShapes Go.ChangeAt Go.WideMaps Go.WideElems
namespace Ip
theorem tryLaid : laidOutB Tryz.prog=true:=by kernel_rfl
theorem tryOwn : ownKnob Tryz.prog.godebug=none:=by kernel_rfl
theorem stays {H:Type} {enc:TypeId × Value→H} {W W':World} (hb:Below W.heap.size W W') {sp:Nat→Bool}:∀ {ts:List TypeId} {vs:List Value} {ds:List (DataW H)} {p:List MemPlace},
    DataW.TrodAll enc Tryz.prog W 0 (fun _=>true) true ts vs ds p→(∀ t∈ts,Tryz.prog.readableRec t=true∧t<Tryz.prog.types.size)→(∀ x∈p,x.block<W.heap.size)→(∀ x∈p,sp x.block=true)→DataW.TrodAll enc Tryz.prog W' 0 sp true ts vs ds p
  | [],_,_,_,h,_,_,_=>by
    obtain ⟨rfl,rfl,rfl⟩:=trodAll_nil h
    exact h
  | t::ts,_,_,_,h,hr,hlt,hsp=>by
    obtain ⟨v,vs1,d,ds1,a,b,rfl,rfl,rfl,h1,h2⟩:=trodAll_cons h
    have hr1:=hr t (by simp)
    exact ⟨a,b,WideElems.Trod_stays tryLaid hr1.1 hr1.2 h1 (fun x hx=>hb.same (hlt x (List.mem_append_left _ hx))) (fun x hx=>hsp x (List.mem_append_left _ hx)),
      stays hb h2 (fun u hu=>hr u (List.mem_cons_of_mem _ hu)) (fun x hx=>hlt x (List.mem_append_right _ hx)) (fun x hx=>hsp x (List.mem_append_right _ hx)),rfl⟩
theorem law_post {H:Type} {enc:TypeId × Value→H} {f:Func} {s:ChangeSpec} {fresh handsOn again:Bool} {W W':World} {args:Array Value} {ds gs:List (DataW H)} {before:List MemPlace}
    (hW:DataW.Whole enc Tryz.prog f.params.toList s.vars false W args.toList ds gs before) (hv:s.vars=[]) (hb:Below W.heap.size W W')
    (hrt:f.resultTypes=#[4]) (hres:(s.fn H ds).results=[.lit (.bool true)]) (hargs:(s.fn H ds).args=ds) (hvars:(s.fn H ds).vars=[]) (hr:∀ t∈f.params.toList,Tryz.prog.readableRec t=true∧t<Tryz.prog.types.size) :
    s.post enc Tryz.prog f false fresh handsOn again W args (.bool true) W':=by
  have hlt:∀ x∈before,x.block<W.heap.size:=fun x hx=>by simpa using hW.lt x hx
  have hW0:=hW
  obtain ⟨p,q,hA,hV,rfl,hz,hn⟩:=hW
  rw [hv] at hV
  obtain ⟨rfl,rfl⟩:=trodVars_none hV
  simp only [List.append_nil] at hz hlt hW0
  have hR:∀ (b:Nat) (sp:Nat→Bool) (hd:Bool),DataW.TrodAll enc Tryz.prog W' b sp hd f.resultTypes.toList ((Value.bool true).resultList f.resultTypes.size) (s.fn H (ds++[])).results []:=fun b sp hd=>by
    rw [List.append_nil,hres,hrt]
    exact trodAll_cons_mk (shut_bool Tryz.underlying4 _) trodAll_mk0
  have hA':∀ sp:Nat→Bool,(∀ x∈p,sp x.block=true)→DataW.TrodAll enc Tryz.prog W' 0 sp true f.params.toList args.toList (s.fn H (ds++[])).args p:=fun sp hsp=>by
    rw [List.append_nil,hargs]; exact stays hb hA hr hlt hsp
  have hVv:∀ sp:Nat→Bool,DataW.TrodVars enc Tryz.prog W' sp s.vars (s.fn H (ds++[])).vars []:=fun sp=>by
    rw [List.append_nil,hv,hvars]; rfl
  have hok:∀ (j:Nat) (t:TypeId) (r:Value),f.resultTypes[j]? = some t→((Value.bool true).resultList f.resultTypes.size)[j]? = some r→Value.okWide Tryz.prog W' .any 0 t r:=ok_one hrt rfl (okWide_bool_mk Tryz.underlying4 _)
  refine ⟨ds,[],p,[],p,[],hW0,hR _ _ _,hA' _ (fun x hx=>by simpa using hlt x hx),hVv _,World.keptBut_mono (fun x hx=>⟨hx,.inr (by simpa using hx)⟩) (hb.frame _),fun _=>?_⟩
  refine ⟨hok,_,_,([]++p)++[],⟨[]++p,[],trodAll_append (hA' (fun _=>true) (fun _ _=>rfl)) (hR _ _ _),hVv _,rfl,?_,fun h=>by cases h⟩,?_⟩
  · intro b off hp
    have hp':MemPlace.cell b off∈p:=by simpa using hp
    rw [hb.frozen (p:=⟨b,off,none⟩) (hlt _ hp')]
    exact hz b off hp'
  · intro x hx _
    simpa using hx
set_option maxRecDepth 100000
def laidL : List (String × DataW Unit):=[("math/bits.deBruijn32tab",Rows.laid_math_bits_deBruijn32tab),("math/bits.deBruijn64tab",Rows.laid_math_bits_deBruijn64tab),("internal/strconv.uint64pow10",Rows.laid_internal_strconv_uint64pow10)]
theorem door_met (os:Os) (args:Array Value):laidMetH Tryz.prog laidL ((World.doorLaid Tryz.prog 400 os).forCall (fun _ _=>0) ⟨#[],args,[]⟩).memory :=
  laidMetH_of_parts3 (fuel:=8) (laidMet_of_run' 8 (by kernel_rfl) (by kernel_rfl)) (by kernel_rfl) (by kernel_rfl)
end Ip
end Go.Proofs.YthcbcdjkfefnlaaGreatDoor
namespace Go.Proofs.YthcbcdjkfefnlaaGreatDoor
open Go.Gv
open Go.RowKit
open Go.Sn hiding En keysP keysP_len stop_ok
open Go.Ps
open Iv Sx Ip
namespace Ip
structure Pr where
  one:Nat
  two:Nat
  fst:Nat
  oth:Nat
  a1:Option Addr
  c1:Nat
  rs:List Int
  a2:Option Addr
  c2:Nat
  rc:List Int
  a3:Option Addr
  c3:Nat
  ts:List Int
  a4:Option Addr
  c4:Nat
  tc:List Int
  deriving Inhabited
abbrev Pr.cells (p:Pr):List Value:=[.int .u8 (p.one:Int),.int .u8 (p.two:Int),.int .u8 (p.fst:Int),.int .u8 (p.oth:Int),.slice p.a1 p.rs.length p.c1,.slice p.a2 p.rc.length p.c2,.slice p.a3 p.ts.length p.c3,.slice p.a4 p.tc.length p.c4]
abbrev Pr.val (p:Pr):Value:=.agg #[.int .u8 (p.one:Int),.int .u8 (p.two:Int),.int .u8 (p.fst:Int),.int .u8 (p.oth:Int),.slice p.a1 p.rs.length p.c1,.slice p.a2 p.rc.length p.c2,.slice p.a3 p.ts.length p.c3,.slice p.a4 p.tc.length p.c4]
structure PrIn (p:Pr) (w:World) (S:List Nat):Prop where
  rs:OldSl w S p.a1 p.rs.length 1 (p.rs.map Xy)
  rc:OldSl w S p.a2 p.rc.length 1 (p.rc.map Xy)
  ts:OldSl w S p.a3 p.ts.length 1 (p.ts.map Xy)
  tc:OldSl w S p.a4 p.tc.length 1 (p.tc.map Xy)
structure PrLe (p:Pr):Prop where
  one:p.one<256
  two:p.two<256
  fst:p.fst<256
  oth:p.oth<256
  rs:p.rs.length≤140737488355328
  rc:p.rc.length≤140737488355328
  ts:p.ts.length≤140737488355328
  tc:p.tc.length≤140737488355328
end Ip
open Ip
open Go.Deep Go.ChangeShapes Go.WideShapes
namespace Ip
section
variable {H:Type} {enc:TypeId × Value→H} {W:World} {base:Nat} {sp:Nat→Bool} {held:Bool}
end
end Ip
namespace Ip
theorem Zpr {k:Int} (h:(Lit.int .u8 k).wf=true):0≤k∧k<256:=by
 simp only [Lit.wf,Bool.and_eq_true,decide_eq_true_eq] at h
 have e1:IntKind.u8.min=0:=rfl
 have e2:IntKind.u8.max=255:=rfl
 omega
end Ip
namespace Ip
section
variable {d r p1 p2 p3 t c:Nat}
theorem ex10_le : OrgLe (Zht d r p1 p2 p3 t c):=by
 refine ⟨by show 1≤140737488355328; omega,by show 2≤140737488355328; omega,by show 3≤140737488355328; omega,by show 1≤140737488355328; omega,Zie (m:=16) (by omega) (by kernel_rfl),fun x hx=>?_,Zie (m:=16) (by omega) (by kernel_rfl),Zie (m:=16) (by omega) (by kernel_rfl),Zie (m:=16) (by omega) (by kernel_rfl),Zie (m:=16) (by omega) (by kernel_rfl)⟩
 have h:((Zht d r p1 p2 p3 t c).ss.all fun x=>Nat.ble x.ps.length x.pc)=true:=by kernel_rfl
 exact Nat.le_of_ble_eq_true (List.all_eq_true.1 h x hx)
theorem ex10_in {w:World} {S:List Nat} (hd:OldSl w S (rowA (some d)) 1 3 (exDs.flatMap Dv.cells)) (hr:OldSl w S (rowA (some r)) 2 6 (exRs.flatMap Rk.cells)) (ht:OldSl w S (rowA (some t)) 3 5 ((exSs p1 p2 p3).flatMap St.cells)) (hc:OldSl w S (rowA (some c)) 1 6 (exC1.flatMap Cp.cells)) (h1:OldSl w S (rowA (some p1)) 1 4 (exP1.flatMap Pt.cells)) (h2:OldSl w S (rowA (some p2)) 1 4 (exP2.flatMap Pt.cells)) (h3:OldSl w S (rowA (some p3)) 1 4 (exP3.flatMap Pt.cells)):OrgIn (Zht d r p1 p2 p3 t c) w S:=by
 refine ⟨hd,hr,ht,hc,fun x hx=>?_⟩
 change x∈exSs p1 p2 p3 at hx
 unfold exSs at hx
 rcases List.mem_cons.1 hx with rfl | hx
 ·exact h1
 rcases List.mem_cons.1 hx with rfl | hx
 ·exact h2
 rcases List.mem_cons.1 hx with rfl | hx
 ·exact h3
 ·cases hx
theorem ex10_chk : (Yo (Zht d r p1 p2 p3 t c)).2=0:=by kernel_rfl
end
structure PsNew (s:Org) (q q2:SS) (V2:Ym) (c:Cl):Prop where
  chk:(Yo s).2=0
  st:PSt (clS s c) q2 V2 2 [] []
  lk:q.Like q2
  nd:s.ds.length≤6
  ns:s.ss.length≤80
  nc:s.cs.length≤24
theorem open_new {s:Org} {q:SS} {v:Value} {T:List HL} (h:OpenR s q (fun _=>none) 1 v T) :
    ((Yo s).2≠0∧v=.tuple #[.pointer none,.int .i64 (Yo s).2]∧T=q.hl)∨∃ (bp:Nat) (c:Cl) (q2:SS) (V2:Ym),v=.tuple #[.pointer (some ⟨bp,0,none⟩),.int .i64 0]∧PsNew s q q2 V2 c∧T=psH s bp q2.bs c++q2.hl:=by
  rcases h with ⟨h1,rfl,rfl⟩ | ⟨_,⟨m,old,hv,_⟩,_⟩ | ⟨h1,bp,c,q2,V2,rfl,hq2,hlk,hV,rfl⟩
  · exact .inl ⟨h1,rfl,rfl⟩
  · cases hv
  · obtain ⟨hd,hs,hc⟩:=Zgv h1
    obtain ⟨_,rfl⟩:=hV.resolve_left (fun ⟨m,h,_⟩=>nomatch h)
    exact .inr ⟨bp,c,q2,_,rfl,⟨h1,⟨hq2,PR.start hd hs hc⟩,hlk,hd,hs,hc⟩,by rw [hlk.bs]⟩
theorem Zf7 (q:SS) {n:Nat} (hn:q.New n) (h4:4≤n) (S:List Nat) (w0:World) (hown:Own w0 S w0 q.hl) (s:Org) (hle:OrgLe s) (hS:OrgIn s w0 S):Sp Tryz.prog 12 [.pointer (some ⟨q.bs,0,none⟩),s.val] w0 S (fun v T=>((Yo s).2≠0∧v=.tuple #[.pointer none,.int .i64 (Yo s).2]∧T=q.hl)∨∃ (bp:Nat) (c:Cl) (q2:SS) (V2:Ym),v=.tuple #[.pointer (some ⟨bp,0,none⟩),.int .i64 0]∧PsNew s q q2 V2 c∧T=psH s bp q2.bs c++q2.hl):=by
 have hcap:(fun _=>none:Ym) 0=none→q.m.length<10 * (q.f.b.length / 256 - 2):=fun _=>by rw [hn.m0,hn.len]; omega
 exact (Znv q _ 1 hn.ok S w0 hown s hle hS (by decide) (fun m h=>nomatch h) hcap hn.left).mono fun v T h=>open_new h
theorem PsNew.left {s:Org} {q q2:SS} {V2:Ym} {c:Cl} (h:PsNew s q q2 V2 c) {n:Nat} (hn:q.New n):q2.f.left = -1:=h.lk.no hn.left
theorem PsNew.cap {s:Org} {q q2:SS} {V2:Ym} {c:Cl} (h:PsNew s q q2 V2 c) {n:Nat} (hn:q.New n):q2.cap=10 * (n - 2):=by
 rw [h.lk.cap]; unfold SS.cap; rw [hn.len]; congr 2; omega
section
variable {s:Org} {q:SS} {V:Ym} {n:Nat} {t:RS} {x:Pis} {ss cs:List Int} {v:Value} {T:List HL}
theorem set_done (h:PSt s q V n t.1 t.2) (hl:q.f.left = -1) (hR:SetR s q V n x ss cs v T):Done s q (n+1) (Wx s q.cap t x ss cs).1 (Wx s q.cap t x ss cs).2 v T:=(Zn1 h hR).resolve_right fun h=>h.2.2.1 hl
end
end Ip
open Ip
namespace Ip
theorem Zcn (l:List HL):Sub [] l:=⟨[],by simp,rfl⟩
end Ip
theorem Zai (w0:World):Sp Tryz.prog 10 [] w0 [] (RV (.bool true)):=by
 refine ZC Tryz.func10 rfl Tryz.ntmps10 rfl (Own.refl _) ?_
 simp only [ZV]
 refine Zb<|Za<|gas rfl rfl<|gA<|Zb<|Za<|Zt (ZJ rfl (vf:=[]) (vc:=[]) rfl rfl Tryz.call11 (fun w1 ho=>Zn2 4 (by decide) (by decide) w1) ?_)
 rintro _ _ ⟨q,rfl,hn,rfl⟩
 refine Jh [] q.hl []<|gm rfl rfl<|gr rfl (ZD rfl rfl)<|gr rfl (ZD rfl rfl)<|gas rfl rfl<|gas rfl rfl<|gA<|Zb<|Za<|gm rfl rfl<|Zt (ZJ rfl (vf:=[]) (vc:=[]) rfl rfl Tryz.call13 (fun w1 ho=>ex10_ok w1) ?_)
 rintro _ _ ⟨xe,xd,xr,x1,x2,x3,xt,xc,rfl,rfl⟩
 refine Zt (Yn [_,_,_,_,_,_,_,_] q.hl rfl rfl (vf:=[]) (vc:=[]) rfl rfl Tryz.call12 rfl (fun w how hc=>Zf7 q hn (by decide) _ w hc (Zht xd xr x1 x2 x3 xt xc) ex10_le (ex10_in (how.rowSlT (A:=[_,_,_,_,_,_,_,_]) 7 rfl) (how.rowSlT (A:=[_,_,_,_,_,_,_,_]) 6 rfl) (how.rowSlT (A:=[_,_,_,_,_,_,_,_]) 2 rfl) (how.rowSlT (A:=[_,_,_,_,_,_,_,_]) 1 rfl) (how.rowSlT (A:=[_,_,_,_,_,_,_,_]) 5 rfl) (how.rowSlT (A:=[_,_,_,_,_,_,_,_]) 4 rfl) (how.rowSlT (A:=[_,_,_,_,_,_,_,_]) 3 rfl))) ?_)
 rintro _ _ (⟨hck,_⟩ | ⟨bp,c9,q2,V2,rfl,hp2,rfl⟩)
 ·exact absurd ex10_chk hck
 rw [← hp2.lk.bs,← hp2.lk.bf]
 have hst2:=hp2.st
 have hlf2:=hp2.left hn
 have hcap2:q2.cap=20:=hp2.cap hn
 refine gm rfl rfl<|gr rfl (ZD rfl rfl)<|gr rfl (ZD rfl rfl)<|gas rfl rfl<|gas rfl rfl<|gA<|Zb<|Zb<|Za<|gm rfl rfl<|gr rfl (Z4 rfl rfl) (Zw (fun h20=>?_) (fun h20=>?_))
 ·exact absurd rfl h20
 refine gm rfl rfl<|Zg rfl rfl<|Zm rfl (Zo rfl)<|Zg rfl rfl<|Zm rfl (X6 eg_36 Tryz.underlying36 rfl rfl)<|gr rfl (Zn rfl rfl)<|gA<|Zl rfl<|Zv<|Ze<|Zb<|Za<|gr rfl (ZT rfl (fun _=>VP _ _ _)) ?_
 refine Zt (ZU Yg rfl rfl (fun b5=>?_))
 refine Zt (Zz 0 Yg rfl rfl rfl rfl rfl rfl (by rfl) ?_)
 refine gA<|Zb<|Za<|gm rfl rfl<|gr rfl (Zr Tryz.underlying23 rfl Yg rfl (by exact ZH 0 (off:=0) (k:=3) rfl rfl) rfl) ?_
 refine Zt (ZQ (sz:=1) rfl rfl (fun _=>Zfx _ _) rfl rfl (fun b28=>?_))
 refine Zt (ZQ (sz:=1) rfl rfl (fun _=>YK _) rfl rfl (fun b29=>?_))
 refine gr rfl (ZT rfl (fun _=>Zjg _ _ _ _ _ _)) ?_
 refine Zt (Yn [_,_,_,_,_,_,_,_,_,_,_,_,_,_,_] q2.hl rfl rfl (vf:=[]) (vc:=[]) rfl rfl Tryz.call19 rfl (fun w how hc=>Zqx q2 V2 2 (.inl hst2.ok) _ w hc (by decide) (clS (Zht xd xr x1 x2 x3 xt xc) c9) bp (Zpl (A:=[_,_,_,_,_,_,_,_,_,_,_,_,_,_,_]) how 11 13 14 rfl rfl rfl hp2.nd hp2.ns hp2.nc) ⟨1,-1,1⟩ [0,2] [0] _ _ _ _ (by decide) (by decide) (how.rowSlT (A:=[_,_,_,_,_,_,_,_,_,_,_,_,_,_,_]) 1 rfl) (how.rowSlT (A:=[_,_,_,_,_,_,_,_,_,_,_,_,_,_,_]) 0 rfl)) ?_)
 rintro v9 T9 hput
 obtain ⟨q3,V3,rfl,hlk3,hst3,rfl⟩:=set_done (t:=([],[])) hst2 hlf2 hput
 have hlf3:=hlk3.no hlf2
 have hcap3:=hlk3.cap.trans hcap2
 have e3:Wx (clS (Zht xd xr x1 x2 x3 xt xc) c9) 20 ([],[]) ⟨1,-1,1⟩ [0,2] [0]=(([⟨1,-1,1⟩],[(⟨1,-1,1⟩,([0,2],[0]))]),0):=by kernel_rfl
 rw [hcap2,e3] at hst3
 rw [hcap2,e3]
 rw [← hlk3.bs]
 refine gas rfl rfl<|gA<|Zb<|Za<|gm rfl rfl<|gr rfl (Zr Tryz.underlying23 rfl Yg rfl (by exact ZH 2 (off:=0) (k:=3) rfl rfl) rfl) ?_
 refine Zt (ZQ (sz:=1) rfl rfl (fun _=>YK _) rfl rfl (fun b35=>?_))
 refine gr rfl (ZT rfl (fun _=>bd_26_0 _ _ _)) ?_
 refine Zt (Yn [_,_,_,_,_,_,_,_,_,_,_,_,_,_,_,_] q3.hl rfl rfl (vf:=[]) (vc:=[]) rfl rfl Tryz.call16 rfl (fun w how hc=>Zj8 q3 V3 3 (.inl hst3.ok) _ w hc (by decide) (clS (Zht xd xr x1 x2 x3 xt xc) c9) bp (Zpl (A:=[_,_,_,_,_,_,_,_,_,_,_,_,_,_,_,_]) how 12 14 15 rfl rfl rfl hp2.nd hp2.ns hp2.nc) ⟨1,-1,1⟩ (fun hx r hk=>hst3.rg hx hk) [1] [] _ _ _ _ (by decide) (by decide) (how.rowSlT (A:=[_,_,_,_,_,_,_,_,_,_,_,_,_,_,_,_]) 0 rfl) (Zg3 _ _ _)) ?_)
 rintro _ _ ⟨e,p,r,c,r2,c2,rfl,rfl,hpi⟩
 obtain ⟨rfl,rfl⟩:=Zii (t:=([⟨1,-1,1⟩],[(⟨1,-1,1⟩,([0,2],[0]))])) hst3 hpi
 have e4:Yp (clS (Zht xd xr x1 x2 x3 xt xc) c9) ([⟨1,-1,1⟩],[(⟨1,-1,1⟩,([0,2],[0]))]) ⟨1,-1,1⟩ [1] []=(([0,2],[0]),0):=by kernel_rfl
 rw [e4]
 refine gm rfl rfl<|gr rfl (ZD rfl rfl)<|gr rfl (ZD rfl rfl)<|Zt (ZU Z5 rfl rfl (fun b7=>?_))
 refine Zt (Zz 0 Z5 rfl rfl rfl rfl rfl rfl (by rfl) ?_)
 refine gas rfl rfl<|gA<|Zb<|Za<|gm rfl rfl<|gr rfl (Z8 rfl rfl) (Zw (fun h41=>?_) (fun h41=>?_))
 ·refine gm rfl rfl<|Zg rfl rfl<|Zm rfl (Zo rfl)<|Zg rfl rfl (Zm rfl (Z8 rfl rfl) (Zw (fun h44=>?_) (fun h44=>?_)))
  ·refine gr rfl (Zq rfl rfl)<|gm rfl rfl<|Zg rfl rfl (Zm rfl (Zr Tryz.underlying26 rfl Z5 rfl (by exact ZH 0 (off:=0) (k:=2) rfl rfl) rfl) ?_)
   refine Zg rfl rfl (ZQ (sz:=1) rfl rfl (fun _=>Zfx _ _) rfl rfl (fun b48=>?_))
   refine Zg rfl rfl (ZQ (sz:=1) rfl rfl (fun _=>YK _) rfl rfl (fun b49=>?_))
   refine Zg rfl rfl (Zm rfl (ZT rfl (fun _=>Zjg _ _ _ _ _ _)) ?_)
   refine Zg rfl rfl (ZJ rfl (vf:=[]) (vc:=[]) rfl rfl Tryz.call32 (fun w1 ho=>Zeg ([0,2],[0]) ([0,2],[0]) (rowA r) (some ⟨b48,0,none⟩) (rowA r2) (some ⟨b49,0,none⟩) c 2 c2 1 (by decide) (by decide) w1 (ho.rowSl 19 rfl) (ho.rowSl 20 rfl) (ho.rowSl 1 rfl) (ho.rowSl 0 rfl)) ?_)
   rintro _ _ ⟨rfl,rfl⟩
   refine gr rfl (Zq rfl rfl)<|gas rfl rfl<|gA<|Zu<|ZW (.inl rfl) Tryz.results10 rfl (Zcn _) ?_
   exact ⟨rfl,rfl⟩
  exact absurd rfl h44
 exact absurd rfl h41
namespace Ip
theorem fl_front (q:SS):Sub (q.fl++(q.blk :: .obj q.bm (X0 HV q.m q.nb)::q.T)) q.hl:=ZS (A:=[_,_,_,_,_]) (B:=[_,_,_,_,_]) (T:=q.T) [2,3,4,0,1] 5 (by decide) (by decide) rfl rfl
theorem SS.flash {q:SS} {F:FuncId} {args:List Value} {w0:World} {S:List Nat} {R:Value→List HL→Prop} (hown:Own w0 S w0 q.hl) (h:∀ S',Own w0 S' w0 q.fl→Sp Tryz.prog F args w0 S' R) :
    Sp Tryz.prog F args w0 S (fun v L=>∃ L1,R v L1∧L=L1++(q.blk :: .obj q.bm (X0 HV q.m q.nb)::q.T)) :=
  Sp.frame (l1:=q.fl) (l2:=q.blk :: .obj q.bm (X0 HV q.m q.nb)::q.T) (hown.sub (fl_front q)) fun ho=>h _ ho
def NonP (w:World) (p:Option Addr):Prop:=p=none∨∃ b,p=some ⟨b,0,none⟩∧w.cell? ⟨b,0,none⟩=some (.bool false)
theorem NonP.at {w0 w:World} {l:List HL} {p:Option Addr} (h:NonP w0 p) (ho:Own w0 [] w l):NonP w p:=by
 rcases h with h | ⟨b,h,hc⟩
 ·exact .inl h
 ·exact .inr ⟨b,h,ho.cellOld hc (by simp)⟩
end Ip
open Ip
namespace Ip
abbrev keC (e:KE):List Value:=[.int .i64 e.x.lv,.int .i64 e.x.dv,.int .i64 e.x.nm,.slice e.a1 e.r.1.length e.c1,.slice e.a2 e.r.2.length e.c2]
structure RH where
  br:Nat
  ru:Option Nat
  cu:Nat
  rl:Option Nat
  cl:Nat
  U:List Pis
  L:List KE
  T:List HL
abbrev rfC (s:Org) (room:Nat) (t:RH):List Value:=[.slice s.da s.ds.length s.dc,.slice s.ra s.rs.length s.rc,.slice s.sa s.ss.length s.sc,.slice s.ca s.cs.length s.cc,natV room,.slice (rowA t.ru) t.U.length t.cu,.slice (rowA t.rl) t.L.length t.cl]
abbrev rfU (t:RH):HL:=.row 23 3 t.ru t.U.length t.cu (t.U.flatMap Pis.cells)
abbrev rfL (t:RH):HL:=.row 176 5 t.rl t.L.length t.cl (t.L.flatMap keC)
abbrev RH.hd (s:Org) (room:Nat) (t:RH):List HL:=[.blk t.br (rfC s room t) 76,rfU t,rfL t]
abbrev RH.hl (s:Org) (room:Nat) (t:RH):List HL:=.blk t.br (rfC s room t) 76::rfU t::rfL t::t.T
abbrev RH.st (t:RH):RS:=(t.U,prs t.L)
def SlM (l:List HL) (a:Option Addr) (k:List Nat):Prop:=∃ r c,a=rowA r∧HL.row 3 1 r k.length c (k.map natV)∈l
def KeM (l:List HL) (e:KE):Prop:=SlM l e.a1 e.r.1∧SlM l e.a2 e.r.2
theorem SlM.mono {l l2:List HL} {a:Option Addr} {k:List Nat} (h:SlM l a k) (hs:∀ x∈l,x∈l2):SlM l2 a k:=by
 obtain ⟨r,c,h1,h2⟩:=h
 exact ⟨r,c,h1,hs _ h2⟩
theorem KeM.mono {l l2:List HL} {e:KE} (h:KeM l e) (hs:∀ x∈l,x∈l2):KeM l2 e:=⟨h.1.mono hs,h.2.mono hs⟩
theorem SlM.at {w0 w:World} {S:List Nat} {l:List HL} {a:Option Addr} {k:List Nat} (h:SlM l a k) (ho:Own w0 S w l):OldSl w [] a k.length 1 (k.map natV):=by
 obtain ⟨r,c,rfl,h2⟩:=h
 exact slMem ho h2
structure KeIn (e:KE) (w:World) (S:List Nat):Prop where
  s:OldSl w S e.a1 e.r.1.length 1 (e.r.1.map natV)
  c:OldSl w S e.a2 e.r.2.length 1 (e.r.2.map natV)
theorem KeIn.at {e:KE} {w0 w:World} {S:List Nat} {l:List HL} (h:KeIn e w0 S) (ho:Own w0 S w l):KeIn e w []:=⟨h.s.at ho,h.c.at ho⟩
theorem KeM.at {w0 w:World} {S:List Nat} {l:List HL} {e:KE} (h:KeM l e) (ho:Own w0 S w l):KeIn e w []:=⟨h.1.at ho,h.2.at ho⟩
structure RfIn (s:Org) (room:Nat) (t:RH) (w:World) (S:List Nat):Prop where
  p:Cells w ⟨t.br,0,none⟩ (rfC s room t)
  o:t.br ∉ S
  u:OldSl w S (rowA t.ru) t.U.length 3 (t.U.flatMap Pis.cells)
  l:OldSl w S (rowA t.rl) t.L.length 5 (t.L.flatMap keC)
  k:∀ e∈t.L,KeIn e w S
theorem RfIn.at {s:Org} {room:Nat} {t:RH} {w0 w:World} {S:List Nat} {l:List HL} (h:RfIn s room t w0 S) (ho:Own w0 S w l):RfIn s room t w [] :=
  ⟨h.p.atS ho h.o,by simp,h.u.at ho,h.l.at ho,fun e he=>(h.k e he).at ho⟩
theorem RfIn.of {s:Org} {room:Nat} {t:RH} {w0 w:World} {S:List Nat} {l:List HL} (ho:Own w0 S w l) (hm:∀ x∈t.hd s room,x∈l) (hk:∀ e∈t.L,KeM l e):RfIn s room t w [] :=
  ⟨(blkMem ho 7 rfl (hm (.blk t.br (rfC s room t) 76) (by simp))).cells,by simp,slMem ho (hm (rfU t) (by simp)),slMem ho (hm (rfL t) (by simp)),fun e he=>(hk e he).at ho⟩
structure RH.Ok (s:Org) (room:Nat) (t:RH):Prop where
  p:RfP s.ds.length s.ss.length s.cs.length room t.U (prs t.L)
  k:∀ e∈t.L,KeM t.T e
theorem RH.Ok.len {s:Org} {room:Nat} {t:RH} (h:t.Ok s room):t.L.length≤544:=by have:=h.p.len; simpa [prs] using this
theorem RH.Ok.rg {s:Org} {room:Nat} {t:RH} (h:t.Ok s room) {e:KE} (he:e∈t.L):RgOk s.ss.length s.cs.length e.r:=(h.p.lok e.pr (List.mem_map.2 ⟨e,he,rfl⟩)).2
end Ip
open Ip
theorem Zdb (s:Org) (hnd:s.ds.length≤6) (x:Pis) (w0:World):Sp Tryz.prog 99 [s.val,Pis.val x] w0 [] (RV (.int .i64 (pnE s.ds.length x))):=by
 refine ZC Tryz.func99 rfl Tryz.ntmps99 rfl (Own.refl _) ?_
 simp only [ZV]
 refine Zb<|Za<|Zt (Z6 rfl rfl rfl (fun b2=>?_))
 refine Zt (Z6 rfl rfl rfl (fun b3=>?_))
 refine gas rfl rfl<|gA<|Zb<|Za<|gas rfl rfl<|gA<|Zb<|Zb<|Za<|gr rfl (Zd rfl (YR _))<|gr rfl (Zi Tryz.underlying3 rfl rfl (by exact Zp 0 rfl rfl)) ?_
 refine gr rfl (Z8 rfl rfl) (Zw (fun h8=>?_) (fun h8=>?_))
 ·refine gA<|Zk rfl<|Za<|gas rfl rfl<|gA<|Zb<|Zb<|Za<|gr rfl (Zd rfl (X9 _))<|gr rfl (Zi Tryz.underlying3 rfl rfl (by exact Zp 0 rfl rfl)) ?_
  refine gr rfl (ZX rfl rfl) (Zw (fun hd1=>?_) (fun hd1=>?_))
  ·refine gm rfl rfl<|Zj rfl rfl rfl<|Zj rfl rfl rfl<|Zj rfl rfl rfl<|gr rfl (Zq rfl rfl)<|gm rfl rfl<|Zj rfl rfl rfl<|Zj rfl rfl rfl<|Zj rfl rfl rfl<|gr rfl (Zq rfl rfl)<|gm rfl rfl<|Zj rfl rfl rfl<|Zj rfl rfl rfl<|Zj rfl rfl rfl<|Zj rfl rfl rfl<|gr rfl (Zq rfl rfl)<|gA<|Zk rfl<|Zb<|Za<|gas rfl rfl<|gA<|Zu ?_
   refine Zh<|Zy (.inl rfl) Tryz.results99 rfl [] (by decide) ?_
   refine ⟨congrArg (Value.int .i64) (Eq.symm ?_),rfl⟩
   unfold pnE
   rw [if_pos h8]
   rw [if_pos (by omega)]
  refine gm rfl rfl<|Zg rfl rfl<|Zm rfl (Zd rfl (X9 _))<|Zg rfl rfl (Zm rfl (Zi Tryz.underlying3 rfl rfl (by exact Zp 0 rfl rfl)) ?_)
  refine Zg rfl rfl (Zm rfl (Yk rfl rfl) (Zw (fun hd2=>?_) (fun hd2=>?_)))
  ·refine gr rfl (Zn rfl rfl)<|gm rfl rfl<|Zj rfl rfl rfl<|Zj rfl rfl rfl<|Zj rfl rfl rfl<|gr rfl (Zq rfl rfl)<|gm rfl rfl<|Zj rfl rfl rfl<|Zj rfl rfl rfl<|Zj rfl rfl rfl<|Zj rfl rfl rfl<|gr rfl (Zq rfl rfl)<|gA<|Zk rfl<|Zb<|Za<|gas rfl rfl<|gA<|Zu<|Zh<|Zy (.inl rfl) Tryz.results99 rfl [] (by decide) ?_
   refine ⟨congrArg (Value.int .i64) (Eq.symm ?_),rfl⟩
   unfold pnE
   rw [if_pos h8]
   rw [if_pos (by omega)]
  refine gr rfl (Zn rfl rfl)<|gm rfl rfl<|Zg rfl rfl<|Zm rfl (Zd rfl (Vh _))<|Zg rfl rfl (Zm rfl (Zi Tryz.underlying3 rfl rfl (by exact Zp 0 rfl rfl)) ?_)
  refine Zg rfl rfl (Zm rfl (ZX rfl rfl) (Zw (fun hd3=>?_) (fun hd3=>?_)))
  ·refine gr rfl (Zn rfl rfl)<|gm rfl rfl<|Zj rfl rfl rfl<|Zj rfl rfl rfl<|Zj rfl rfl rfl<|Zj rfl rfl rfl<|gr rfl (Zq rfl rfl)<|gA<|Zk rfl<|Zb<|Za<|gas rfl rfl<|gA<|Zu<|Zh<|Zy (.inl rfl) Tryz.results99 rfl [] (by decide) ?_
   refine ⟨congrArg (Value.int .i64) (Eq.symm ?_),rfl⟩
   unfold pnE
   rw [if_pos h8]
   rw [if_pos (by omega)]
  refine gr rfl (Zn rfl rfl)<|gm rfl rfl<|Zg rfl rfl<|Zm rfl (Zd rfl (Vh _))<|Zg rfl rfl (Zm rfl (Zi Tryz.underlying3 rfl rfl (by exact Zp 0 rfl rfl)) ?_)
  refine Zg rfl rfl<|Zm rfl (Zo rfl)<|Zg rfl rfl (Zm rfl (Yk rfl rfl) (Zw (fun hd4=>?_) (fun hd4=>?_)))
  ·refine gr rfl (Zn rfl rfl)<|gA<|Zk rfl<|Zb<|Za<|gas rfl rfl<|gA<|Zu<|Zh<|Zy (.inl rfl) Tryz.results99 rfl [] (by decide) ?_
   refine ⟨congrArg (Value.int .i64) (Eq.symm ?_),rfl⟩
   unfold pnE
   rw [if_pos h8]
   rw [if_pos (by omega)]
  refine gr rfl (Zn rfl rfl)<|gA<|Zl rfl<|Zv<|Ze<|Zb<|Zb<|Za<|gr rfl (Zd rfl (YR _))<|gr rfl (Zi Tryz.underlying3 rfl rfl (by exact Zp 0 rfl rfl)) ?_
  refine gr rfl (ZX rfl rfl) (Zw (fun hd5=>?_) (fun hd5=>?_))
  ·refine gm rfl rfl<|Zj rfl rfl rfl<|Zj rfl rfl rfl<|Zj rfl rfl rfl<|Zj rfl rfl rfl<|Zj rfl rfl rfl<|Zj rfl rfl rfl<|gr rfl (Zq rfl rfl)<|gA<|Zk rfl<|Zb<|Za<|gas rfl rfl<|gA<|Zu<|Zh<|Zy (.inl rfl) Tryz.results99 rfl [] (by decide) ?_
   refine ⟨congrArg (Value.int .i64) (Eq.symm ?_),rfl⟩
   unfold pnE
   rw [if_pos h8]
   rw [if_neg (by omega),if_pos (by omega)]
  refine gm rfl rfl<|Zg rfl rfl<|Zm rfl (Zd rfl (YR _))<|Zg rfl rfl (Zm rfl (Zi Tryz.underlying3 rfl rfl (by exact Zp 0 rfl rfl)) ?_)
  refine Zg rfl rfl<|Zm rfl (Zd rfl (YS _))<|Zg rfl rfl (Zm rfl (Zi Tryz.underlying40 rfl rfl (by exact Zp 1 rfl rfl)) ?_)
  refine Zg rfl rfl<|Zm rfl (ZA Tryz.underlying40 rfl)<|Zg rfl rfl (Zm rfl (Xs rfl rfl) (Zw (fun hd6=>?_) (fun hd6=>?_)))
  ·refine gr rfl (Zn rfl rfl)<|gA<|Zk rfl<|Zb<|Za<|gas rfl rfl<|gA<|Zu<|Zh<|Zy (.inl rfl) Tryz.results99 rfl [] (by decide) ?_
   refine ⟨congrArg (Value.int .i64) (Eq.symm ?_),rfl⟩
   unfold pnE
   rw [if_pos h8]
   rw [if_neg (by omega),if_pos (by omega)]
  refine gr rfl (Zn rfl rfl)<|gA<|Zl rfl<|Zv<|Ze<|Zb<|Za<|gas rfl rfl<|gA<|Zu<|Zy (.inl rfl) Tryz.results99 rfl [] (by decide) ?_
  refine ⟨congrArg (Value.int .i64) (Eq.symm ?_),rfl⟩
  unfold pnE
  rw [if_pos h8]
  rw [if_neg (by omega),if_neg (by omega)]
 refine gA<|Zl rfl<|Zv<|Ze<|Zb<|Zb<|Za<|gr rfl (Zd rfl (X9 _))<|gr rfl (Zi Tryz.underlying3 rfl rfl (by exact Zp 0 rfl rfl)) ?_
 refine gr rfl (ZX rfl rfl) (Zw (fun hd7=>?_) (fun hd7=>?_))
 ·refine gm rfl rfl<|Zj rfl rfl rfl<|Zj rfl rfl rfl<|Zj rfl rfl rfl<|gr rfl (Zq rfl rfl)<|gm rfl rfl<|Zj rfl rfl rfl<|Zj rfl rfl rfl<|Zj rfl rfl rfl<|gr rfl (Zq rfl rfl)<|gm rfl rfl<|Zj rfl rfl rfl<|Zj rfl rfl rfl<|Zj rfl rfl rfl<|Zj rfl rfl rfl<|gr rfl (Zq rfl rfl)<|gA<|Zk rfl<|Zb<|Za<|gas rfl rfl<|gA<|Zu ?_
  refine Zh<|Zy (.inl rfl) Tryz.results99 rfl [] (by decide) ?_
  refine ⟨congrArg (Value.int .i64) (Eq.symm ?_),rfl⟩
  unfold pnE
  rw [if_neg h8]
  rw [if_pos (by omega)]
 refine gm rfl rfl<|Zg rfl rfl<|Zm rfl (Zd rfl (X9 _))<|Zg rfl rfl (Zm rfl (Zi Tryz.underlying3 rfl rfl (by exact Zp 0 rfl rfl)) ?_)
 refine Zg rfl rfl (Zm rfl (Yk rfl rfl) (Zw (fun hd8=>?_) (fun hd8=>?_)))
 ·refine gr rfl (Zn rfl rfl)<|gm rfl rfl<|Zj rfl rfl rfl<|Zj rfl rfl rfl<|Zj rfl rfl rfl<|gr rfl (Zq rfl rfl)<|gm rfl rfl<|Zj rfl rfl rfl<|Zj rfl rfl rfl<|Zj rfl rfl rfl<|Zj rfl rfl rfl<|gr rfl (Zq rfl rfl)<|gA<|Zk rfl<|Zb<|Za<|gas rfl rfl<|gA<|Zu<|Zh<|Zy (.inl rfl) Tryz.results99 rfl [] (by decide) ?_
  refine ⟨congrArg (Value.int .i64) (Eq.symm ?_),rfl⟩
  unfold pnE
  rw [if_neg h8]
  rw [if_pos (by omega)]
 refine gr rfl (Zn rfl rfl)<|gm rfl rfl<|Zg rfl rfl<|Zm rfl (Zd rfl (Vh _))<|Zg rfl rfl (Zm rfl (Zi Tryz.underlying3 rfl rfl (by exact Zp 0 rfl rfl)) ?_)
 refine Zg rfl rfl (Zm rfl (ZX rfl rfl) (Zw (fun hd9=>?_) (fun hd9=>?_)))
 ·refine gr rfl (Zn rfl rfl)<|gm rfl rfl<|Zj rfl rfl rfl<|Zj rfl rfl rfl<|Zj rfl rfl rfl<|Zj rfl rfl rfl<|gr rfl (Zq rfl rfl)<|gA<|Zk rfl<|Zb<|Za<|gas rfl rfl<|gA<|Zu<|Zh<|Zy (.inl rfl) Tryz.results99 rfl [] (by decide) ?_
  refine ⟨congrArg (Value.int .i64) (Eq.symm ?_),rfl⟩
  unfold pnE
  rw [if_neg h8]
  rw [if_pos (by omega)]
 refine gr rfl (Zn rfl rfl)<|gm rfl rfl<|Zg rfl rfl<|Zm rfl (Zd rfl (Vh _))<|Zg rfl rfl (Zm rfl (Zi Tryz.underlying3 rfl rfl (by exact Zp 0 rfl rfl)) ?_)
 refine Zg rfl rfl<|Zm rfl (Zo rfl)<|Zg rfl rfl (Zm rfl (Yk rfl rfl) (Zw (fun hd10=>?_) (fun hd10=>?_)))
 ·refine gr rfl (Zn rfl rfl)<|gA<|Zk rfl<|Zb<|Za<|gas rfl rfl<|gA<|Zu<|Zh<|Zy (.inl rfl) Tryz.results99 rfl [] (by decide) ?_
  refine ⟨congrArg (Value.int .i64) (Eq.symm ?_),rfl⟩
  unfold pnE
  rw [if_neg h8]
  rw [if_pos (by omega)]
 refine gr rfl (Zn rfl rfl)<|gA<|Zl rfl<|Zv<|Ze<|Zb<|Zb<|Za<|gr rfl (Zd rfl (YR _))<|gr rfl (Zi Tryz.underlying3 rfl rfl (by exact Zp 0 rfl rfl)) ?_
 refine gr rfl (ZX rfl rfl) (Zw (fun hd11=>?_) (fun hd11=>?_))
 ·refine gm rfl rfl<|Zj rfl rfl rfl<|Zj rfl rfl rfl<|Zj rfl rfl rfl<|Zj rfl rfl rfl<|Zj rfl rfl rfl<|Zj rfl rfl rfl<|gr rfl (Zq rfl rfl)<|gA<|Zk rfl<|Zb<|Za<|gas rfl rfl<|gA<|Zu<|Zh<|Zy (.inl rfl) Tryz.results99 rfl [] (by decide) ?_
  refine ⟨congrArg (Value.int .i64) (Eq.symm ?_),rfl⟩
  unfold pnE
  rw [if_neg h8]
  rw [if_neg (by omega),if_pos (by omega)]
 refine gm rfl rfl<|Zg rfl rfl<|Zm rfl (Zd rfl (YR _))<|Zg rfl rfl (Zm rfl (Zi Tryz.underlying3 rfl rfl (by exact Zp 0 rfl rfl)) ?_)
 refine Zg rfl rfl<|Zm rfl (Zd rfl (YS _))<|Zg rfl rfl (Zm rfl (Zi Tryz.underlying40 rfl rfl (by exact Zp 1 rfl rfl)) ?_)
 refine Zg rfl rfl<|Zm rfl (ZA Tryz.underlying40 rfl)<|Zg rfl rfl (Zm rfl (Xs rfl rfl) (Zw (fun hd12=>?_) (fun hd12=>?_)))
 ·refine gr rfl (Zn rfl rfl)<|gA<|Zk rfl<|Zb<|Za<|gas rfl rfl<|gA<|Zu<|Zh<|Zy (.inl rfl) Tryz.results99 rfl [] (by decide) ?_
  refine ⟨congrArg (Value.int .i64) (Eq.symm ?_),rfl⟩
  unfold pnE
  rw [if_neg h8]
  rw [if_neg (by omega),if_pos (by omega)]
 refine gr rfl (Zn rfl rfl)<|gA<|Zl rfl<|Zv<|Ze<|Zb<|Za<|gas rfl rfl<|gA<|Zu<|Zy (.inl rfl) Tryz.results99 rfl [] (by decide) ?_
 refine ⟨congrArg (Value.int .i64) (Eq.symm ?_),rfl⟩
 unfold pnE
 rw [if_neg h8]
 rw [if_neg (by omega),if_neg (by omega)]
namespace Ip
theorem rChk_no (s:Org) (hle:OrgLe s) (hck:(Yo s).2=0) (b c:Nat) (ss cs:List Int) (a1 a2:Option Addr) (c1 c2:Nat) (hl1:ss.length≤140737488355328) (hl2:cs.length≤140737488355328) (w0:World) (hS:OrgIn s w0 []) (hk:OldSl w0 [] (some ⟨b,0,none⟩) s.ds.length 1 (List.replicate s.ds.length (.slice none 0 0))) (h1:OldSl w0 [] a1 ss.length 1 (ss.map Xy)) (h2:OldSl w0 [] a2 cs.length 1 (cs.map Xy)) :
    Sp Tryz.prog 73 [s.val,.agg #[.slice (some ⟨b,0,none⟩) s.ds.length c,.slice a1 ss.length c1,.slice a2 cs.length c2]] w0 [] (RV (.int .i64 (XB s.ss.length s.cs.length ss cs))):=by
  have hm:(List.replicate s.ds.length (⟨none,0,[]⟩:KR)).map KR.cell=List.replicate s.ds.length (.slice none 0 0):=by rw [List.map_replicate]; rfl
  have e:=rChk_ok s ⟨some ⟨b,0,none⟩,c,List.replicate s.ds.length ⟨none,0,[]⟩,a1,c1,ss,a2,c2,cs⟩ hle ⟨by rw [List.length_replicate]; exact hle.d,fun x hx=>by rw [List.eq_of_mem_replicate hx]; decide,fun x hx=>by rw [List.eq_of_mem_replicate hx]; decide,hl1,hl2⟩ w0 hS ⟨by rw [List.length_replicate,hm]; exact hk,fun x hx=>by rw [List.eq_of_mem_replicate hx]; exact Zg3 _ _ _,h1,h2⟩
  rw [hand_reg hck (by rw [List.length_replicate]) (fun x hx=>by rw [List.eq_of_mem_replicate hx])] at e
  have ev:Hd.val ⟨some ⟨b,0,none⟩,c,List.replicate s.ds.length ⟨none,0,[]⟩,a1,c1,ss,a2,c2,cs⟩=.agg #[.slice (some ⟨b,0,none⟩) s.ds.length c,.slice a1 ss.length c1,.slice a2 cs.length c2]:=by simp [Hd.val]
  rw [ev] at e
  exact e
end Ip
open Ip
theorem Za8 (s:Org) (hle:OrgLe s) (hnd:s.ds.length≤6) (hns:s.ss.length≤80) (hnc:s.cs.length≤24) (w0:World) (hS:OrgIn s w0 []) (hck:(Yo s).2=0) (ss cs:List Int) (a1 a2:Option Addr) (c1 c2:Nat) (hl1:ss.length≤140737488355328) (hl2:cs.length≤140737488355328) (h1:OldSl w0 [] a1 ss.length 1 (ss.map Xy)) (h2:OldSl w0 [] a2 cs.length 1 (cs.map Xy)):Sp Tryz.prog 31 [s.val,.agg #[.slice a1 ss.length c1,.slice a2 cs.length c2]] w0 [] (RV (.int .i64 (XB s.ss.length s.cs.length ss cs))):=by
 refine ZC Tryz.func31 rfl Tryz.ntmps31 rfl (Own.refl _) ?_
 simp only [ZV]
 refine Zb<|Za<|Zt (Z6 rfl rfl rfl (fun b2=>?_))
 refine Zt (Z6 rfl rfl rfl (fun b3=>?_))
 refine gas rfl rfl<|gA<|Zb<|ZO [0,1] true 11 rfl<|Zc 0 rfl rfl ⟨[0,1],by decide,rfl⟩ (Zf (Zr Tryz.underlying45 rfl Xu rfl (by exact ZH 1 (off:=0) (k:=4) rfl rfl) rfl)) ?_
 refine Zc 1 rfl rfl ⟨[0,1],by decide,rfl⟩ (Zf (Zd rfl (YS _))) ?_
 refine Zc 2 rfl rfl ⟨[0,1],by decide,rfl⟩ (Zf (Zi Tryz.underlying40 rfl rfl (by exact Zp 1 rfl rfl))) ?_
 refine Zc 3 rfl rfl ⟨[0,1],by decide,rfl⟩ (Zf (ZA Tryz.underlying40 rfl)) ?_
 refine Zc 5 rfl rfl ⟨[0,1],by decide,rfl⟩ (Zf (Zd rfl (Yu _))) ?_
 refine Zc 6 rfl rfl ⟨[0,1],by decide,rfl⟩ (Zf (Zi Tryz.underlying24 rfl rfl (by exact Zp 0 rfl rfl))) ?_
 refine Zc 7 rfl rfl ⟨[0,1],by decide,rfl⟩ (Zf (Zd rfl (Yv _))) ?_
 refine Zc 8 rfl rfl ⟨[0,1],by decide,rfl⟩ (Zf (Zi Tryz.underlying24 rfl rfl (by exact Zp 0 rfl rfl))) ?_
 refine ZK 4 rfl (.inr ⟨[0,1],by decide,rfl⟩) (Zal (s.ds.length) Tryz.underlying143 WG rfl rfl rfl (by omega) (by omega) (by omega) (by omega) (fun b10=>?_))
 refine Zc 9 rfl rfl ⟨[1,2],by decide,rfl⟩ (Zf (ZT rfl (fun _=>Zk0 _ _ _ _ _ _ _ _ _))) ?_
 rw [Zgz _ rfl]
 refine ZK 10 rfl (.inr ⟨[1,2],by decide,rfl⟩) (ZJ rfl (vf:=[]) (vc:=[]) rfl rfl Tryz.call73 (fun w1 ho=>rChk_no s hle hck b10 _ ss cs a1 a2 c1 c2 hl1 hl2 w1 (hS.at ho) (ho.rowSl 0 rfl) (h1.at ho) (h2.at ho)) ?_)
 rintro _ _ ⟨rfl,rfl⟩
 refine Zc 11 rfl rfl ⟨[1,2],by decide,rfl⟩ (Zf (ZY rfl)) ?_
 refine ZP (.inr ⟨[1,2],by decide,rfl⟩) ?_
 refine Ze<|Zb<|Za<|gm rfl rfl<|gas rfl rfl<|gA<|Zu<|Zy (.inl rfl) Tryz.results31 rfl [] (by decide) ?_
 exact ⟨rfl,rfl⟩
theorem rLess_ok (x y:Pis) (w0:World):Sp Tryz.prog 123 [Pis.val x,Pis.val y] w0 [] (RV (.bool (lsB x y))):=by
 refine ZC Tryz.func123 rfl Tryz.ntmps123 rfl (Own.refl _) ?_
 simp only [ZV]
 refine Zb<|Za<|Zt (Z6 rfl rfl rfl (fun b2=>?_))
 refine Zt (Z6 rfl rfl rfl (fun b3=>?_))
 refine gas rfl rfl<|gA<|Zb<|Zb<|Za<|gr rfl (Zd rfl (X9 _))<|gr rfl (Zi Tryz.underlying3 rfl rfl (by exact Zp 1 rfl rfl)) ?_
 refine gr rfl (Zd rfl (X9 _))<|gr rfl (Zi Tryz.underlying3 rfl rfl (by exact Zp 0 rfl rfl)) ?_
 refine gr rfl (Z4 rfl rfl) (Zw (fun h9=>?_) (fun h9=>?_))
 ·refine gA<|Zk rfl<|Zb<|Za<|gr rfl (Zd rfl (X9 _))<|gr rfl (Zi Tryz.underlying3 rfl rfl (by exact Zp 1 rfl rfl)) ?_
  refine gr rfl (Zd rfl (X9 _))<|gr rfl (Zi Tryz.underlying3 rfl rfl (by exact Zp 0 rfl rfl)) ?_
  refine gr rfl (ZX rfl rfl)<|gas rfl rfl<|gA<|Zu<|Zh<|Zy (.inl rfl) Tryz.results123 rfl [] (by decide) ?_
  refine ⟨congrArg Value.bool (Eq.symm ?_),rfl⟩
  simp [lsB,h9]
 refine gA<|Zl rfl<|Zv<|Ze<|Zb<|Zb<|Za<|gr rfl (Zd rfl (YR _))<|gr rfl (Zi Tryz.underlying3 rfl rfl (by exact Zp 1 rfl rfl)) ?_
 refine gr rfl (Zd rfl (YR _))<|gr rfl (Zi Tryz.underlying3 rfl rfl (by exact Zp 0 rfl rfl)) ?_
 refine gr rfl (Z4 rfl rfl) (Zw (fun h19=>?_) (fun h19=>?_))
 ·refine gA<|Zk rfl<|Zb<|Za<|gr rfl (Zd rfl (YR _))<|gr rfl (Zi Tryz.underlying3 rfl rfl (by exact Zp 1 rfl rfl)) ?_
  refine gr rfl (Zd rfl (YR _))<|gr rfl (Zi Tryz.underlying3 rfl rfl (by exact Zp 0 rfl rfl)) ?_
  refine gr rfl (ZX rfl rfl)<|gas rfl rfl<|gA<|Zu<|Zh<|Zy (.inl rfl) Tryz.results123 rfl [] (by decide) ?_
  refine ⟨congrArg Value.bool (Eq.symm ?_),rfl⟩
  replace h9:=Classical.not_not.1 h9
  simp [lsB,h9,h19]
 refine gA<|Zl rfl<|Zv<|Ze<|Zb<|Za<|gr rfl (Zd rfl (Vh _))<|gr rfl (Zi Tryz.underlying3 rfl rfl (by exact Zp 1 rfl rfl)) ?_
 refine gr rfl (Zd rfl (Vh _))<|gr rfl (Zi Tryz.underlying3 rfl rfl (by exact Zp 0 rfl rfl)) ?_
 refine gr rfl (ZX rfl rfl)<|gas rfl rfl<|gA<|Zu<|Zy (.inl rfl) Tryz.results123 rfl [] (by decide) ?_
 refine ⟨congrArg Value.bool (Eq.symm ?_),rfl⟩
 replace h9:=Classical.not_not.1 h9
 replace h19:=Classical.not_not.1 h19
 simp [lsB,h9,h19]
theorem Zfj (l:List Nat) (n:Nat) (a:Option Addr) (cp:Nat) (hl:l.length≤1000) (hn:n≤1000) (w0:World) (h1:OldSl w0 [] a l.length 1 (l.map natV)):Sp Tryz.prog 122 [.slice a l.length cp,natV n] w0 [] (RV (.bool (decide (n∈l)))):=by
 refine ZC Tryz.func122 rfl Tryz.ntmps122 rfl (Own.refl _) ?_
 simp only [ZV]
 refine Zb<|Za<|gas rfl rfl<|gA<|Zb<|Zb<|Za<|gas rfl rfl<|gA<|ZB<|ZZ (ι:=Nat) [(0,_),(1,_)] [] (fun k=>k≤l.length∧n ∉ l.take k) (fun k Fr0=>((5,natV k)::Fr0)) (fun k Fr0=>Fr0) (fun k=>l.length - k) 0 (⟨Nat.zero_le _,by simp⟩) ⟨rfl,rfl,rfl,trivial⟩ ⟨[],by decide,rfl⟩ ?_
 rintro k ⟨hk,hno⟩
 refine Zb<|Zb<|Za<|gm rfl rfl<|gm rfl rfl<|gr rfl (ZA Tryz.underlying24 rfl)<|gr rfl (ZX rfl rfl) (Zw (fun h9=>?_) (fun h9=>?_))
 ·obtain ⟨u,hu⟩:=get_some (show k<l.length by omega)
  refine gA<|Zk rfl<|Zv<|Ze<|Zb<|ZB<|Zb<|Za<|gm rfl rfl<|gm rfl rfl<|gr rfl (Z9 h1 Tryz.underlying24 Y7 rfl rfl (by omega) (by omega)) ?_
  refine gr rfl (Zi Tryz.underlying3 rfl rfl (YX h1 (Xr hu)))<|gm rfl rfl<|gr rfl (Z8 rfl rfl) (Zw (fun h17=>?_) (fun h17=>?_))
  ·refine gA<|Zk rfl<|Zb<|Za<|gas rfl rfl<|gA<|Zu<|Zx<|Zh<|Zh<|Zx<|Zh<|Zy (.inl rfl) Tryz.results122 rfl [] (by decide) ?_
   refine ⟨congrArg Value.bool (Eq.symm ?_),rfl⟩
   have e:u=n:=by omega
   subst e
   exact decide_eq_true (List.mem_of_getElem? hu)
  refine gA<|Zl rfl<|Zv<|ZI<|Ze<|Za<|gm rfl rfl<|gr rfl (by exact ZL (b:=1) rfl rfl (by omega)) ?_
  refine gas rfl rfl<|ZM<|Ze ?_
  exact ZR (k+1) ⟨⟨by omega,by rw [take_at hu,List.mem_append]; exact fun h=>h.elim hno (fun h=>h17 (by have e:n=u:=(by simpa using h); rw [e]))⟩,by omega⟩ ⟨rfl,rfl,rfl,trivial⟩ ⟨[],by decide,rfl⟩
 refine gA<|Zl rfl<|Z1<|Zs<|Zs<|ZE<|Ze<|Zb<|Za<|gas rfl rfl<|gA<|Zu<|Zy (.inl rfl) Tryz.results122 rfl [] (by decide) ?_
 refine ⟨congrArg Value.bool (Eq.symm ?_),rfl⟩
 rw [List.take_of_length_le (by omega)] at hno
 exact decide_eq_false hno
namespace Ip
def PlaceIs (t:RH) (x:Pis) (z:Int):Prop:=(z = -1∧Yx (prs t.L) x=none)∨∃ (i:Nat) (e:KE),z=(i:Int)∧t.L[i]? = some e∧e.x=x∧Yx (prs t.L) x=some e.r
end Ip
open Ip
theorem Zfk (s:Org) (room:Nat) (t:RH) (w0:World) (hp:Cells w0 ⟨t.br,0,none⟩ (rfC s room t)) (hL:OldSl w0 [] (rowA t.rl) t.L.length 5 (t.L.flatMap keC)) (hl:t.L.length≤1000) (x:Pis):Sp Tryz.prog 100 [.pointer (some ⟨t.br,0,none⟩),Pis.val x] w0 [] (fun v L=>L=[]∧∃ z:Int,v=.int .i64 z∧PlaceIs t x z):=by
 refine ZC Tryz.func100 rfl Tryz.ntmps100 rfl (Own.refl _) ?_
 simp only [ZV]
 refine Zb<|Za<|Zt (Z6 rfl rfl rfl (fun b3=>?_))
 refine gas rfl rfl<|gA<|Zb<|Zb<|Za<|gas rfl rfl<|gA<|ZB<|ZZ (ι:=Nat) [(0,_),(3,_)] [_] (fun k=>k≤t.L.length∧∀ j,j<k→∀ q,t.L[j]? = some q→q.x≠x) (fun k Fr0=>((5,natV k)::Fr0)) (fun k Fr0=>Fr0) (fun k=>t.L.length - k) 0 (⟨Nat.zero_le _,fun j h=>absurd h (Nat.not_lt_zero j)⟩) ⟨rfl,rfl,rfl,trivial⟩ ⟨[0],by decide,rfl⟩ ?_
 rintro k ⟨hk,hall⟩
 refine Zb<|Zb<|Za<|gm rfl rfl<|gm rfl rfl<|gnc rfl rfl<|gr rfl (Zd rfl (Y6 _))<|gr rfl (Zi Tryz.underlying74 rfl rfl (Yj hp (by simp) (j:=6) rfl)) ?_
 refine gr rfl (ZA Tryz.underlying74 rfl)<|gr rfl (ZX rfl rfl) (Zw (fun h12=>?_) (fun h12=>?_))
 ·obtain ⟨e,hx⟩:=get_some (show k<t.L.length by omega)
  refine gA<|Zk rfl<|Zv<|Ze<|Zb<|ZB<|Zb<|ZO [0] true 9 rfl<|Zc 0 rfl rfl ⟨[0],by decide,rfl⟩ (Zf (Zo rfl)) ?_
  refine Zc 1 rfl rfl ⟨[0],by decide,rfl⟩ (Zf (ZN rfl)) ?_
  refine Zc 2 rfl rfl ⟨[0],by decide,rfl⟩ (Zf (Zd rfl (Y6 _))) ?_
  refine Zc 3 rfl rfl ⟨[0],by decide,rfl⟩ (Zf (Zi Tryz.underlying74 rfl rfl (Yj hp (by simp) (j:=6) rfl))) ?_
  refine Zc 4 rfl rfl ⟨[0],by decide,rfl⟩ (Zf (Zo rfl)) ?_
  refine Zc 5 rfl rfl ⟨[0],by decide,rfl⟩ (Zf (Z3 hL Tryz.underlying74 Xe rfl rfl (by omega) (by omega))) ?_
  refine Zc 6 rfl rfl ⟨[0],by decide,rfl⟩ (Zf (Zd rfl (Vl _))) ?_
  refine Zc 7 rfl rfl ⟨[0],by decide,rfl⟩ (Zf (Zr Tryz.underlying23 rfl Yg rfl (Zfi hL (YD keC 5 (fun _=>rfl) hx (j:=0) (n:=3) (by decide))) rfl)) ?_
  refine Zc 8 rfl rfl ⟨[0],by decide,rfl⟩ (Zf (Zr Tryz.underlying23 rfl Yg rfl (by exact ZH 0 (off:=0) (k:=3) rfl rfl) rfl)) ?_
  refine Zc 9 rfl rfl ⟨[0],by decide,rfl⟩ (Zf (Zma (a:=e.x.lv) (b:=e.x.dv) (m:=e.x.nm) (c:=x.lv) (d:=x.dv) (o:=x.nm) Zc8 (by kernel_rfl) rfl rfl)) ?_
  refine Z0 (fun h24=>?_) (fun h24=>?_)
  ·have hq:e.x=x:=(Zc9 _ _).1 (by simpa using h24)
   refine ZP (.inr ⟨[0],by decide,rfl⟩) ?_
   refine Ze<|Zk rfl<|Zb<|Za<|gm rfl rfl<|gas rfl rfl<|gA<|Zu<|Zx<|Zh<|Zh<|Zx<|Zh<|Zy (.inl rfl) Tryz.results100 rfl [] (by decide) ?_
   exact ⟨rfl,_,rfl,.inr ⟨k,e,rfl,hx,hq,by rw [Zn7 hall hx hq]⟩⟩
  have hq:¬ e.x=x:=fun h=>by subst h; simp at h24
  refine ZP (.inr ⟨[0],by decide,rfl⟩) ?_
  refine Ze<|Zl rfl<|Zv<|ZI<|Ze<|Za<|gm rfl rfl<|gr rfl (by exact ZL (b:=1) rfl rfl (by omega)) ?_
  refine gas rfl rfl<|ZM<|Ze ?_
  exact ZR (k+1) ⟨⟨by omega,fun j hj q hjq=>by
   rcases Nat.lt_or_eq_of_le (Nat.le_of_lt_succ hj) with h | rfl
   ·exact hall j h q hjq
   ·rw [hx] at hjq; cases hjq; exact hq⟩,by omega⟩ ⟨rfl,rfl,rfl,trivial⟩ ⟨[0],by decide,rfl⟩
 refine gA<|Zl rfl<|Z1<|Zs<|Zs<|ZE<|Ze<|Zb<|Za<|gas rfl rfl<|gA<|Zu<|Zy (.inl rfl) Tryz.results100 rfl [] (by decide) ?_
 exact ⟨rfl,_,rfl,.inl ⟨rfl,Zn8 fun j q hj=>hall j (by have:=(List.getElem?_eq_some_iff.1 hj).1; omega) q hj⟩⟩
theorem Zil (s:Org) (hle:OrgLe s) (hnd:s.ds.length≤6) (hns:s.ss.length≤80) (hnc:s.cs.length≤24) (w0:World) (hS:OrgIn s w0 []) (x:Pis) (r:Rg) (a1 a2:Option Addr) (c1 c2:Nat) (hr:RgOk s.ss.length s.cs.length r) (h1:OldSl w0 [] a1 r.1.length 1 (r.1.map natV)) (h2:OldSl w0 [] a2 r.2.length 1 (r.2.map natV)):Sp Tryz.prog 105 [s.val,Pis.val x,.agg #[.slice a1 r.1.length c1,.slice a2 r.2.length c2]] w0 [] (fun v L=>∃ (r1:Option Nat) (d1:Nat) (r2:Option Nat) (d2:Nat),v=.agg #[.slice (rowA r1) (Yz s x r).1.length d1,.slice (rowA r2) (Yz s x r).2.length d2]∧L=[.row 3 1 r1 (Yz s x r).1.length d1 ((Yz s x r).1.map natV),.row 3 1 r2 (Yz s x r).2.length d2 ((Yz s x r).2.map natV)]):=by
 have hl1:=Vr hr hns
 have hl2:=Vs hr hnc
 refine ZC Tryz.func105 rfl Tryz.ntmps105 rfl (Own.refl _) ?_
 simp only [ZV]
 refine Zb<|Za<|Zt (Z6 rfl rfl rfl (fun b3=>?_))
 refine Zt (Z6 rfl rfl rfl (fun b4=>?_))
 refine Zt (Z6 rfl rfl rfl (fun b5=>?_))
 refine Zt (ZU Z5 rfl rfl (fun b6=>?_))
 refine gA<|Zb<|Za<|Zt (ZU Z5 rfl rfl (fun b7=>?_))
 refine gA<|Zb<|Zb<|Za<|gas rfl rfl<|gA<|ZB<|YH 3 1<|ZZ (ι:=Nat × Option Nat × Nat) [(3,_),(4,_),(5,_),(6,_),(7,_)] [_,_,_,_] (fun q=>q.1≤r.1.length) (fun q Fr0=>((8,natV q.1)::Fr0)) (fun q Fr0=>(.blk b7 [.slice (rowA q.2.1) ((r.1.take q.1).filter (Yd s x)).length q.2.2,.slice none 0 0] 26 :: .row 3 1 q.2.1 ((r.1.take q.1).filter (Yd s x)).length q.2.2 (((r.1.take q.1).filter (Yd s x)).map natV)::Fr0)) (fun q=>r.1.length - q.1) (0,none,0) (Nat.zero_le _) ⟨rfl,rfl,rfl,rfl,rfl,rfl,trivial⟩ ⟨[1,0,2,3,4,5],by decide,rfl⟩ ?_
 rintro ⟨k,r1,d1⟩ hk
 simp only at hk ⊢
 refine Zb<|Zb<|Za<|gm rfl rfl<|gr rfl (Zd rfl (Yu _))<|gr rfl (Zi Tryz.underlying24 rfl rfl (by exact Zp 3 rfl rfl)) ?_
 refine gr rfl (ZA Tryz.underlying24 rfl)<|gr rfl (ZX rfl rfl) (Zw (fun h14=>?_) (fun h14=>?_))
 ·obtain ⟨i,hx⟩:=get_some (show k<r.1.length by omega)
  have hi9:=hr.sn i (List.mem_of_getElem? hx)
  obtain ⟨t,hti⟩:=get_some (show i<s.ss.length by omega)
  have hsce:=Zfa (x:=x) hti
  have hfl1:=Zcl (l:=r.1) k (Yd s x)
  refine gA<|Zk rfl<|Zv<|Ze<|Zb<|ZB<|Zb<|ZO [0,1,2,3,4,5] true 17 rfl<|Zc 0 rfl rfl ⟨[0,1,2,3,4,5],by decide,rfl⟩ (Zf (Zd rfl (YR _))) ?_
  refine Zc 1 rfl rfl ⟨[0,1,2,3,4,5],by decide,rfl⟩ (Zf (Zi Tryz.underlying3 rfl rfl (by exact Zp 4 rfl rfl))) ?_
  refine Zc 2 rfl rfl ⟨[0,1,2,3,4,5],by decide,rfl⟩ (Zf (Z8 rfl rfl)) (Zw (fun hd1=>?_) (fun hd1=>?_))
  ·refine Zc 3 rfl rfl ⟨[0,1,2,3,4,5],by decide,rfl⟩ (Zf (Zo rfl)) ?_
   refine ZF 4 rfl rfl rfl rfl rfl ⟨[0,1,2,3,4,5],by decide,rfl⟩ ?_
   refine ZF 5 rfl rfl rfl rfl rfl ⟨[0,1,2,3,4,5],by decide,rfl⟩ ?_
   refine ZF 6 rfl rfl rfl rfl rfl ⟨[0,1,2,3,4,5],by decide,rfl⟩ ?_
   refine ZF 7 rfl rfl rfl rfl rfl ⟨[0,1,2,3,4,5],by decide,rfl⟩ ?_
   refine ZF 8 rfl rfl rfl rfl rfl ⟨[0,1,2,3,4,5],by decide,rfl⟩ ?_
   refine ZF 9 rfl rfl rfl rfl rfl ⟨[0,1,2,3,4,5],by decide,rfl⟩ ?_
   refine ZF 10 rfl rfl rfl rfl rfl ⟨[0,1,2,3,4,5],by decide,rfl⟩ ?_
   refine ZF 11 rfl rfl rfl rfl rfl ⟨[0,1,2,3,4,5],by decide,rfl⟩ ?_
   refine ZF 12 rfl rfl rfl rfl rfl ⟨[0,1,2,3,4,5],by decide,rfl⟩ ?_
   refine ZF 13 rfl rfl rfl rfl rfl ⟨[0,1,2,3,4,5],by decide,rfl⟩ ?_
   refine ZF 14 rfl rfl rfl rfl rfl ⟨[0,1,2,3,4,5],by decide,rfl⟩ ?_
   refine ZF 15 rfl rfl rfl rfl rfl ⟨[0,1,2,3,4,5],by decide,rfl⟩ ?_
   refine ZF 16 rfl rfl rfl rfl rfl ⟨[0,1,2,3,4,5],by decide,rfl⟩ ?_
   refine Zc 17 rfl rfl ⟨[0,1,2,3,4,5],by decide,rfl⟩ (Zf (Zq rfl rfl)) ?_
   refine ZP (.inr ⟨[0,1,2,3,4,5],by decide,rfl⟩) ?_
   refine Ze<|Zk rfl<|ZO [0,2,3,4,5] false 10 rfl<|Zc 0 rfl rfl ⟨[0,2,3,4,5],by decide,rfl⟩ (Zf (Zd rfl (Yu _))) ?_
   refine Zc 1 rfl rfl ⟨[0,2,3,4,5],by decide,rfl⟩ (Zf (Zi Tryz.underlying24 rfl rfl (by exact Zp 0 rfl rfl))) ?_
   refine Zc 2 rfl rfl ⟨[0,2,3,4,5],by decide,rfl⟩ (Zf (Zd rfl (Yu _))) ?_
   refine Zc 3 rfl rfl ⟨[0,2,3,4,5],by decide,rfl⟩ (Zf (Zi Tryz.underlying24 rfl rfl (by exact Zp 2 rfl rfl))) ?_
   refine Zc 4 rfl rfl ⟨[0,2,3,4,5],by decide,rfl⟩ (Zf (Zo rfl)) ?_
   refine Zc 5 rfl rfl ⟨[0,2,3,4,5],by decide,rfl⟩ (Zf (Z9 h1 Tryz.underlying24 Y7 rfl rfl (by omega) (by omega))) ?_
   refine Zc 6 rfl rfl ⟨[0,2,3,4,5],by decide,rfl⟩ (Zf (Zi Tryz.underlying3 rfl rfl (YX h1 (Xr hx)))) ?_
   refine ZK 7 rfl (.inr ⟨[0,2,3,4,5],by decide,rfl⟩) (ZQ (sz:=1) rfl rfl (fun _=>YK _) rfl rfl (fun b42=>?_))
   refine ZK 8 rfl (.inr ⟨[1,3,4,5,6],by decide,rfl⟩) (Yb 2 0 Tryz.underlying24 Y7 rfl (by decide) rfl rfl rfl rfl rfl (by simp [Value.oneCell']) (by omega) (by omega) (fun _=>(by rfl)) (fun r43 c43=>?_))
   refine Zc 9 rfl rfl ⟨[1,3,4,5,6],by decide,rfl⟩ (Zf (Zd rfl (Yu _))) ?_
   refine ZK 10 rfl (.inr ⟨[1,3,4,5,6],by decide,rfl⟩) (Yc 1 WG rfl rfl rfl rfl rfl (by rfl) (by rfl) ?_)
   refine ZP (.inl (by kernel_rfl)) ?_
   refine ZI<|Ze<|Za<|gm rfl rfl<|gr rfl (by exact ZL (b:=1) rfl rfl (by omega)) ?_
   refine gas rfl rfl<|ZM<|Ze ?_
   have ht:=Zcu (k:=k) (f:=Yd s x) hx (by (rw [hsce,decide_eq_true hd1]; rfl))
   rw [show ((r.1.take k).filter (Yd s x)).length+1=((r.1.take (k+1)).filter (Yd s x)).length by rw [ht,List.length_append]; rfl,show ((r.1.take k).filter (Yd s x)).map natV++[natV i]=((r.1.take (k+1)).filter (Yd s x)).map natV by rw [ht,List.map_append]; rfl]
   exact ZR ((k+1,r43,c43)) ⟨by simp only; omega,by simp only; omega⟩ ⟨rfl,rfl,rfl,rfl,rfl,rfl,trivial⟩ ⟨[1,2,3,4,5,6],by decide,rfl⟩
  refine Zc 3 rfl rfl ⟨[0,1,2,3,4,5],by decide,rfl⟩ (Zf (Zo rfl)) ?_
  refine ZG 4 rfl rfl rfl rfl rfl ⟨[0,1,2,3,4,5],by decide,rfl⟩ (Zf (Zd rfl (Xg _))) ?_
  refine ZG 5 rfl rfl rfl rfl rfl ⟨[0,1,2,3,4,5],by decide,rfl⟩ (Zf (Zi Tryz.underlying42 rfl rfl (by exact Zp 5 rfl rfl))) ?_
  refine ZG 6 rfl rfl rfl rfl rfl ⟨[0,1,2,3,4,5],by decide,rfl⟩ (Zf (Zd rfl (Yu _))) ?_
  refine ZG 7 rfl rfl rfl rfl rfl ⟨[0,1,2,3,4,5],by decide,rfl⟩ (Zf (Zi Tryz.underlying24 rfl rfl (by exact Zp 3 rfl rfl))) ?_
  refine ZG 8 rfl rfl rfl rfl rfl ⟨[0,1,2,3,4,5],by decide,rfl⟩ (Zf (Zo rfl)) ?_
  refine ZG 9 rfl rfl rfl rfl rfl ⟨[0,1,2,3,4,5],by decide,rfl⟩ (Zf (Z9 h1 Tryz.underlying24 Y7 rfl rfl (by omega) (by omega))) ?_
  refine ZG 10 rfl rfl rfl rfl rfl ⟨[0,1,2,3,4,5],by decide,rfl⟩ (Zf (Zi Tryz.underlying3 rfl rfl (YX h1 (Xr hx)))) ?_
  refine ZG 11 rfl rfl rfl rfl rfl ⟨[0,1,2,3,4,5],by decide,rfl⟩ (Zf (Z3 hS.t Tryz.underlying42 WN rfl rfl (by omega) (by omega))) ?_
  refine ZG 12 rfl rfl rfl rfl rfl ⟨[0,1,2,3,4,5],by decide,rfl⟩ (Zf (Zd rfl (VH _))) ?_
  refine ZG 13 rfl rfl rfl rfl rfl ⟨[0,1,2,3,4,5],by decide,rfl⟩ (Zf (Zi Tryz.underlying3 rfl rfl (XS hS.t (Y0 St.cells 5 (fun _=>rfl) hti (j:=1) (by decide) rfl)))) ?_
  refine ZG 14 rfl rfl rfl rfl rfl ⟨[0,1,2,3,4,5],by decide,rfl⟩ (Zf (Zd rfl (YR _))) ?_
  refine ZG 15 rfl rfl rfl rfl rfl ⟨[0,1,2,3,4,5],by decide,rfl⟩ (Zf (Zi Tryz.underlying3 rfl rfl (by exact Zp 4 rfl rfl))) ?_
  refine ZG 16 rfl rfl rfl rfl rfl ⟨[0,1,2,3,4,5],by decide,rfl⟩ (Zf (Z8 rfl rfl)) (Zw (fun hd2=>?_) (fun hd2=>?_))
  ·refine Zc 17 rfl rfl ⟨[0,1,2,3,4,5],by decide,rfl⟩ (Zf (Zn rfl rfl)) ?_
   refine ZP (.inr ⟨[0,1,2,3,4,5],by decide,rfl⟩) ?_
   refine Ze<|Zk rfl<|ZO [0,2,3,4,5] false 10 rfl<|Zc 0 rfl rfl ⟨[0,2,3,4,5],by decide,rfl⟩ (Zf (Zd rfl (Yu _))) ?_
   refine Zc 1 rfl rfl ⟨[0,2,3,4,5],by decide,rfl⟩ (Zf (Zi Tryz.underlying24 rfl rfl (by exact Zp 0 rfl rfl))) ?_
   refine Zc 2 rfl rfl ⟨[0,2,3,4,5],by decide,rfl⟩ (Zf (Zd rfl (Yu _))) ?_
   refine Zc 3 rfl rfl ⟨[0,2,3,4,5],by decide,rfl⟩ (Zf (Zi Tryz.underlying24 rfl rfl (by exact Zp 2 rfl rfl))) ?_
   refine Zc 4 rfl rfl ⟨[0,2,3,4,5],by decide,rfl⟩ (Zf (Zo rfl)) ?_
   refine Zc 5 rfl rfl ⟨[0,2,3,4,5],by decide,rfl⟩ (Zf (Z9 h1 Tryz.underlying24 Y7 rfl rfl (by omega) (by omega))) ?_
   refine Zc 6 rfl rfl ⟨[0,2,3,4,5],by decide,rfl⟩ (Zf (Zi Tryz.underlying3 rfl rfl (YX h1 (Xr hx)))) ?_
   refine ZK 7 rfl (.inr ⟨[0,2,3,4,5],by decide,rfl⟩) (ZQ (sz:=1) rfl rfl (fun _=>YK _) rfl rfl (fun b42=>?_))
   refine ZK 8 rfl (.inr ⟨[1,3,4,5,6],by decide,rfl⟩) (Yb 2 0 Tryz.underlying24 Y7 rfl (by decide) rfl rfl rfl rfl rfl (by simp [Value.oneCell']) (by omega) (by omega) (fun _=>(by rfl)) (fun r43 c43=>?_))
   refine Zc 9 rfl rfl ⟨[1,3,4,5,6],by decide,rfl⟩ (Zf (Zd rfl (Yu _))) ?_
   refine ZK 10 rfl (.inr ⟨[1,3,4,5,6],by decide,rfl⟩) (Yc 1 WG rfl rfl rfl rfl rfl (by rfl) (by rfl) ?_)
   refine ZP (.inl (by kernel_rfl)) ?_
   refine ZI<|Ze<|Za<|gm rfl rfl<|gr rfl (by exact ZL (b:=1) rfl rfl (by omega)) ?_
   refine gas rfl rfl<|ZM<|Ze ?_
   have ht:=Zcu (k:=k) (f:=Yd s x) hx (by (rw [hsce,decide_eq_true hd2,Bool.or_true]))
   rw [show ((r.1.take k).filter (Yd s x)).length+1=((r.1.take (k+1)).filter (Yd s x)).length by rw [ht,List.length_append]; rfl,show ((r.1.take k).filter (Yd s x)).map natV++[natV i]=((r.1.take (k+1)).filter (Yd s x)).map natV by rw [ht,List.map_append]; rfl]
   exact ZR ((k+1,r43,c43)) ⟨by simp only; omega,by simp only; omega⟩ ⟨rfl,rfl,rfl,rfl,rfl,rfl,trivial⟩ ⟨[1,2,3,4,5,6],by decide,rfl⟩
  refine Zc 17 rfl rfl ⟨[0,1,2,3,4,5],by decide,rfl⟩ (Zf (Zn rfl rfl)) ?_
  refine ZP (.inr ⟨[0,1,2,3,4,5],by decide,rfl⟩) ?_
  refine Ze<|Zl rfl<|Zv<|ZI<|Ze<|Za<|gm rfl rfl<|gr rfl (by exact ZL (b:=1) rfl rfl (by omega)) ?_
  refine gas rfl rfl<|ZM<|Ze ?_
  rw [← Zf5 (k:=k) (f:=Yd s x) hx (by rw [hsce,decide_eq_false hd1,decide_eq_false hd2]; rfl)]
  exact ZR ((k+1,r1,d1)) ⟨by simp only; omega,by simp only; omega⟩ ⟨rfl,rfl,rfl,rfl,rfl,rfl,trivial⟩ ⟨[0,1,2,3,4,5],by decide,rfl⟩
 refine gA<|Zl rfl<|Z1<|Zs<|Zs<|ZE<|Ze<|Zb<|Zb ?_
 rw [Zcm (k:=k) (Yd s x) (by omega)]
 refine Za<|gas rfl rfl<|gA<|ZB<|YH 3 1<|ZZ (ι:=Nat × Option Nat × Nat) [(3,_),(4,_),(5,_),(6,_),(7,_)] [_,_,_,_,_] (fun q=>q.1≤r.2.length) (fun q Fr0=>((9,natV q.1)::Fr0)) (fun q Fr0=>(.blk b7 [.slice (rowA r1) (r.1.filter (Yd s x)).length d1,.slice (rowA q.2.1) ((r.2.take q.1).filter (Ye s x)).length q.2.2] 26 :: .row 3 1 q.2.1 ((r.2.take q.1).filter (Ye s x)).length q.2.2 (((r.2.take q.1).filter (Ye s x)).map natV)::Fr0)) (fun q=>r.2.length - q.1) (0,none,0) (Nat.zero_le _) ⟨rfl,rfl,rfl,rfl,rfl,rfl,trivial⟩ ⟨[1,0,2,3,4,5,6],by decide,rfl⟩ ?_
 rintro ⟨k,r2,d2⟩ hk
 simp only at hk ⊢
 refine Zb<|Zb<|Za<|gm rfl rfl<|gr rfl (Zd rfl (Yv _))<|gr rfl (Zi Tryz.underlying24 rfl rfl (by exact Zp 4 rfl rfl)) ?_
 refine gr rfl (ZA Tryz.underlying24 rfl)<|gr rfl (ZX rfl rfl) (Zw (fun h49=>?_) (fun h49=>?_))
 ·obtain ⟨i,hx⟩:=get_some (show k<r.2.length by omega)
  have hi9:=hr.cn i (List.mem_of_getElem? hx)
  obtain ⟨t,hti⟩:=get_some (show i<s.cs.length by omega)
  have hsce:=Zfb (x:=x) hti
  have hfl1:=Zcl (l:=r.2) k (Ye s x)
  refine gA<|Zk rfl<|Zv<|Ze<|Zb<|ZB<|Zb<|ZO [0,1,2,3,4,5,6] true 17 rfl<|Zc 0 rfl rfl ⟨[0,1,2,3,4,5,6],by decide,rfl⟩ (Zf (Zd rfl (YR _))) ?_
  refine Zc 1 rfl rfl ⟨[0,1,2,3,4,5,6],by decide,rfl⟩ (Zf (Zi Tryz.underlying3 rfl rfl (by exact Zp 5 rfl rfl))) ?_
  refine Zc 2 rfl rfl ⟨[0,1,2,3,4,5,6],by decide,rfl⟩ (Zf (Z8 rfl rfl)) (Zw (fun hd1=>?_) (fun hd1=>?_))
  ·refine Zc 3 rfl rfl ⟨[0,1,2,3,4,5,6],by decide,rfl⟩ (Zf (Zo rfl)) ?_
   refine ZF 4 rfl rfl rfl rfl rfl ⟨[0,1,2,3,4,5,6],by decide,rfl⟩ ?_
   refine ZF 5 rfl rfl rfl rfl rfl ⟨[0,1,2,3,4,5,6],by decide,rfl⟩ ?_
   refine ZF 6 rfl rfl rfl rfl rfl ⟨[0,1,2,3,4,5,6],by decide,rfl⟩ ?_
   refine ZF 7 rfl rfl rfl rfl rfl ⟨[0,1,2,3,4,5,6],by decide,rfl⟩ ?_
   refine ZF 8 rfl rfl rfl rfl rfl ⟨[0,1,2,3,4,5,6],by decide,rfl⟩ ?_
   refine ZF 9 rfl rfl rfl rfl rfl ⟨[0,1,2,3,4,5,6],by decide,rfl⟩ ?_
   refine ZF 10 rfl rfl rfl rfl rfl ⟨[0,1,2,3,4,5,6],by decide,rfl⟩ ?_
   refine ZF 11 rfl rfl rfl rfl rfl ⟨[0,1,2,3,4,5,6],by decide,rfl⟩ ?_
   refine ZF 12 rfl rfl rfl rfl rfl ⟨[0,1,2,3,4,5,6],by decide,rfl⟩ ?_
   refine ZF 13 rfl rfl rfl rfl rfl ⟨[0,1,2,3,4,5,6],by decide,rfl⟩ ?_
   refine ZF 14 rfl rfl rfl rfl rfl ⟨[0,1,2,3,4,5,6],by decide,rfl⟩ ?_
   refine ZF 15 rfl rfl rfl rfl rfl ⟨[0,1,2,3,4,5,6],by decide,rfl⟩ ?_
   refine ZF 16 rfl rfl rfl rfl rfl ⟨[0,1,2,3,4,5,6],by decide,rfl⟩ ?_
   refine Zc 17 rfl rfl ⟨[0,1,2,3,4,5,6],by decide,rfl⟩ (Zf (Zq rfl rfl)) ?_
   refine ZP (.inr ⟨[0,1,2,3,4,5,6],by decide,rfl⟩) ?_
   refine Ze<|Zk rfl<|ZO [0,2,3,4,5,6] false 10 rfl<|Zc 0 rfl rfl ⟨[0,2,3,4,5,6],by decide,rfl⟩ (Zf (Zd rfl (Yv _))) ?_
   refine Zc 1 rfl rfl ⟨[0,2,3,4,5,6],by decide,rfl⟩ (Zf (Zi Tryz.underlying24 rfl rfl (by exact Zp 0 rfl rfl))) ?_
   refine Zc 2 rfl rfl ⟨[0,2,3,4,5,6],by decide,rfl⟩ (Zf (Zd rfl (Yv _))) ?_
   refine Zc 3 rfl rfl ⟨[0,2,3,4,5,6],by decide,rfl⟩ (Zf (Zi Tryz.underlying24 rfl rfl (by exact Zp 3 rfl rfl))) ?_
   refine Zc 4 rfl rfl ⟨[0,2,3,4,5,6],by decide,rfl⟩ (Zf (Zo rfl)) ?_
   refine Zc 5 rfl rfl ⟨[0,2,3,4,5,6],by decide,rfl⟩ (Zf (Z9 h2 Tryz.underlying24 Y7 rfl rfl (by omega) (by omega))) ?_
   refine Zc 6 rfl rfl ⟨[0,2,3,4,5,6],by decide,rfl⟩ (Zf (Zi Tryz.underlying3 rfl rfl (YX h2 (Xr hx)))) ?_
   refine ZK 7 rfl (.inr ⟨[0,2,3,4,5,6],by decide,rfl⟩) (ZQ (sz:=1) rfl rfl (fun _=>YK _) rfl rfl (fun b77=>?_))
   refine ZK 8 rfl (.inr ⟨[1,3,4,5,6,7],by decide,rfl⟩) (Yb 2 0 Tryz.underlying24 Y7 rfl (by decide) rfl rfl rfl rfl rfl (by simp [Value.oneCell']) (by omega) (by omega) (fun _=>(by rfl)) (fun r78 c78=>?_))
   refine Zc 9 rfl rfl ⟨[1,3,4,5,6,7],by decide,rfl⟩ (Zf (Zd rfl (Yv _))) ?_
   refine ZK 10 rfl (.inr ⟨[1,3,4,5,6,7],by decide,rfl⟩) (Yc 1 WG rfl rfl rfl rfl rfl (by rfl) (by rfl) ?_)
   refine ZP (.inl (by kernel_rfl)) ?_
   refine ZI<|Ze<|Za<|gm rfl rfl<|gr rfl (by exact ZL (b:=1) rfl rfl (by omega)) ?_
   refine gas rfl rfl<|ZM<|Ze ?_
   have ht:=Zcu (k:=k) (f:=Ye s x) hx (by (rw [hsce,decide_eq_true hd1]; rfl))
   rw [show ((r.2.take k).filter (Ye s x)).length+1=((r.2.take (k+1)).filter (Ye s x)).length by rw [ht,List.length_append]; rfl,show ((r.2.take k).filter (Ye s x)).map natV++[natV i]=((r.2.take (k+1)).filter (Ye s x)).map natV by rw [ht,List.map_append]; rfl]
   exact ZR ((k+1,r78,c78)) ⟨by simp only; omega,by simp only; omega⟩ ⟨rfl,rfl,rfl,rfl,rfl,rfl,trivial⟩ ⟨[1,2,3,4,5,6,7],by decide,rfl⟩
  refine Zc 3 rfl rfl ⟨[0,1,2,3,4,5,6],by decide,rfl⟩ (Zf (Zo rfl)) ?_
  refine ZG 4 rfl rfl rfl rfl rfl ⟨[0,1,2,3,4,5,6],by decide,rfl⟩ (Zf (Zd rfl (XM _))) ?_
  refine ZG 5 rfl rfl rfl rfl rfl ⟨[0,1,2,3,4,5,6],by decide,rfl⟩ (Zf (Zi Tryz.underlying43 rfl rfl (by exact Zp 6 rfl rfl))) ?_
  refine ZG 6 rfl rfl rfl rfl rfl ⟨[0,1,2,3,4,5,6],by decide,rfl⟩ (Zf (Zd rfl (Yv _))) ?_
  refine ZG 7 rfl rfl rfl rfl rfl ⟨[0,1,2,3,4,5,6],by decide,rfl⟩ (Zf (Zi Tryz.underlying24 rfl rfl (by exact Zp 4 rfl rfl))) ?_
  refine ZG 8 rfl rfl rfl rfl rfl ⟨[0,1,2,3,4,5,6],by decide,rfl⟩ (Zf (Zo rfl)) ?_
  refine ZG 9 rfl rfl rfl rfl rfl ⟨[0,1,2,3,4,5,6],by decide,rfl⟩ (Zf (Z9 h2 Tryz.underlying24 Y7 rfl rfl (by omega) (by omega))) ?_
  refine ZG 10 rfl rfl rfl rfl rfl ⟨[0,1,2,3,4,5,6],by decide,rfl⟩ (Zf (Zi Tryz.underlying3 rfl rfl (YX h2 (Xr hx)))) ?_
  refine ZG 11 rfl rfl rfl rfl rfl ⟨[0,1,2,3,4,5,6],by decide,rfl⟩ (Zf (Z3 hS.c Tryz.underlying43 WZ rfl rfl (by omega) (by omega))) ?_
  refine ZG 12 rfl rfl rfl rfl rfl ⟨[0,1,2,3,4,5,6],by decide,rfl⟩ (Zf (Zd rfl (Wd _))) ?_
  refine ZG 13 rfl rfl rfl rfl rfl ⟨[0,1,2,3,4,5,6],by decide,rfl⟩ (Zf (Zi Tryz.underlying3 rfl rfl (XS hS.c (Y0 Cp.cells 6 (fun _=>rfl) hti (j:=1) (by decide) rfl)))) ?_
  refine ZG 14 rfl rfl rfl rfl rfl ⟨[0,1,2,3,4,5,6],by decide,rfl⟩ (Zf (Zd rfl (YR _))) ?_
  refine ZG 15 rfl rfl rfl rfl rfl ⟨[0,1,2,3,4,5,6],by decide,rfl⟩ (Zf (Zi Tryz.underlying3 rfl rfl (by exact Zp 5 rfl rfl))) ?_
  refine ZG 16 rfl rfl rfl rfl rfl ⟨[0,1,2,3,4,5,6],by decide,rfl⟩ (Zf (Z8 rfl rfl)) (Zw (fun hd2=>?_) (fun hd2=>?_))
  ·refine Zc 17 rfl rfl ⟨[0,1,2,3,4,5,6],by decide,rfl⟩ (Zf (Zn rfl rfl)) ?_
   refine ZP (.inr ⟨[0,1,2,3,4,5,6],by decide,rfl⟩) ?_
   refine Ze<|Zk rfl<|ZO [0,2,3,4,5,6] false 10 rfl<|Zc 0 rfl rfl ⟨[0,2,3,4,5,6],by decide,rfl⟩ (Zf (Zd rfl (Yv _))) ?_
   refine Zc 1 rfl rfl ⟨[0,2,3,4,5,6],by decide,rfl⟩ (Zf (Zi Tryz.underlying24 rfl rfl (by exact Zp 0 rfl rfl))) ?_
   refine Zc 2 rfl rfl ⟨[0,2,3,4,5,6],by decide,rfl⟩ (Zf (Zd rfl (Yv _))) ?_
   refine Zc 3 rfl rfl ⟨[0,2,3,4,5,6],by decide,rfl⟩ (Zf (Zi Tryz.underlying24 rfl rfl (by exact Zp 3 rfl rfl))) ?_
   refine Zc 4 rfl rfl ⟨[0,2,3,4,5,6],by decide,rfl⟩ (Zf (Zo rfl)) ?_
   refine Zc 5 rfl rfl ⟨[0,2,3,4,5,6],by decide,rfl⟩ (Zf (Z9 h2 Tryz.underlying24 Y7 rfl rfl (by omega) (by omega))) ?_
   refine Zc 6 rfl rfl ⟨[0,2,3,4,5,6],by decide,rfl⟩ (Zf (Zi Tryz.underlying3 rfl rfl (YX h2 (Xr hx)))) ?_
   refine ZK 7 rfl (.inr ⟨[0,2,3,4,5,6],by decide,rfl⟩) (ZQ (sz:=1) rfl rfl (fun _=>YK _) rfl rfl (fun b77=>?_))
   refine ZK 8 rfl (.inr ⟨[1,3,4,5,6,7],by decide,rfl⟩) (Yb 2 0 Tryz.underlying24 Y7 rfl (by decide) rfl rfl rfl rfl rfl (by simp [Value.oneCell']) (by omega) (by omega) (fun _=>(by rfl)) (fun r78 c78=>?_))
   refine Zc 9 rfl rfl ⟨[1,3,4,5,6,7],by decide,rfl⟩ (Zf (Zd rfl (Yv _))) ?_
   refine ZK 10 rfl (.inr ⟨[1,3,4,5,6,7],by decide,rfl⟩) (Yc 1 WG rfl rfl rfl rfl rfl (by rfl) (by rfl) ?_)
   refine ZP (.inl (by kernel_rfl)) ?_
   refine ZI<|Ze<|Za<|gm rfl rfl<|gr rfl (by exact ZL (b:=1) rfl rfl (by omega)) ?_
   refine gas rfl rfl<|ZM<|Ze ?_
   have ht:=Zcu (k:=k) (f:=Ye s x) hx (by (rw [hsce,decide_eq_true hd2,Bool.or_true]))
   rw [show ((r.2.take k).filter (Ye s x)).length+1=((r.2.take (k+1)).filter (Ye s x)).length by rw [ht,List.length_append]; rfl,show ((r.2.take k).filter (Ye s x)).map natV++[natV i]=((r.2.take (k+1)).filter (Ye s x)).map natV by rw [ht,List.map_append]; rfl]
   exact ZR ((k+1,r78,c78)) ⟨by simp only; omega,by simp only; omega⟩ ⟨rfl,rfl,rfl,rfl,rfl,rfl,trivial⟩ ⟨[1,2,3,4,5,6,7],by decide,rfl⟩
  refine Zc 17 rfl rfl ⟨[0,1,2,3,4,5,6],by decide,rfl⟩ (Zf (Zn rfl rfl)) ?_
  refine ZP (.inr ⟨[0,1,2,3,4,5,6],by decide,rfl⟩) ?_
  refine Ze<|Zl rfl<|Zv<|ZI<|Ze<|Za<|gm rfl rfl<|gr rfl (by exact ZL (b:=1) rfl rfl (by omega)) ?_
  refine gas rfl rfl<|ZM<|Ze ?_
  rw [← Zf5 (k:=k) (f:=Ye s x) hx (by rw [hsce,decide_eq_false hd1,decide_eq_false hd2]; rfl)]
  exact ZR ((k+1,r2,d2)) ⟨by simp only; omega,by simp only; omega⟩ ⟨rfl,rfl,rfl,rfl,rfl,rfl,trivial⟩ ⟨[0,1,2,3,4,5,6],by decide,rfl⟩
 refine gA<|Zl rfl<|Z1<|Zs<|Zs<|ZE<|Ze<|Zb ?_
 rw [Zcm (k:=k) (Ye s x) (by omega)]
 refine Za<|gr rfl (Zr Tryz.underlying26 rfl Z5 rfl (by exact ZH 0 (off:=0) (k:=2) rfl rfl) rfl) ?_
 refine Zt (Zz 3 Z5 rfl rfl rfl rfl rfl rfl (by rfl) ?_)
 refine gA<|Zu<|J2 (.inl rfl) Tryz.results105 (YC Tryz.underlying26 rfl Z5 rfl (by rfl) (ZH 3 (off:=0) (k:=2) rfl rfl)) [2,1] (by decide) ?_
 exact ⟨r1,d1,r2,d2,rfl,rfl⟩
namespace Ip
abbrev prF (f:Nat→Bool) (k w:List Nat) (i:Nat):Bool:=(f i && decide (i∈k)) || (!f i && decide (i∈w))
end Ip
open Ip
theorem Zf8 (s:Org) (hle:OrgLe s) (hnd:s.ds.length≤6) (hns:s.ss.length≤80) (hnc:s.cs.length≤24) (w0:World) (hS:OrgIn s w0 []) (x:Pis) (k w:Rg) (hk:RgOk s.ss.length s.cs.length k) (hw:RgOk s.ss.length s.cs.length w) (a1 a2 a3 a4:Option Addr) (c1 c2 c3 c4:Nat) (h1:OldSl w0 [] a1 k.1.length 1 (k.1.map natV)) (h2:OldSl w0 [] a2 k.2.length 1 (k.2.map natV)) (h3:OldSl w0 [] a3 w.1.length 1 (w.1.map natV)) (h4:OldSl w0 [] a4 w.2.length 1 (w.2.map natV)):Sp Tryz.prog 101 [s.val,Pis.val x,.agg #[.slice a1 k.1.length c1,.slice a2 k.2.length c2],.agg #[.slice a3 w.1.length c3,.slice a4 w.2.length c4]] w0 [] (fun v L=>∃ (r1:Option Nat) (d1:Nat) (r2:Option Nat) (d2:Nat),v=.agg #[.slice (rowA r1) (Xf s x k w).1.length d1,.slice (rowA r2) (Xf s x k w).2.length d2]∧L=[.row 3 1 r1 (Xf s x k w).1.length d1 ((Xf s x k w).1.map natV),.row 3 1 r2 (Xf s x k w).2.length d2 ((Xf s x k w).2.map natV)]):=by
 have hk1:k.1.length≤1000:=Vr hk hns
 have hk2:k.2.length≤1000:=Vs hk hnc
 have hw1:w.1.length≤1000:=Vr hw hns
 have hw2:w.2.length≤1000:=Vs hw hnc
 refine ZC Tryz.func101 rfl Tryz.ntmps101 rfl (Own.refl _) ?_
 simp only [ZV]
 refine Zb<|Za<|Zt (Z6 rfl rfl rfl (fun b4=>?_))
 refine Zt (Z6 rfl rfl rfl (fun b5=>?_))
 refine Zt (Z6 rfl rfl rfl (fun b6=>?_))
 refine Zt (Z6 rfl rfl rfl (fun b7=>?_))
 refine Zt (ZU Z5 rfl rfl (fun b8=>?_))
 refine gA<|Zb<|Za<|Zt (ZU Z5 rfl rfl (fun b9=>?_))
 refine gA<|Zb<|Zb<|Za<|gas rfl rfl<|gA<|ZB<|YH 3 1<|ZZ (ι:=Nat × Option Nat × Nat) [(4,_),(5,_),(6,_),(7,_),(8,_),(9,_)] [_,_,_,_,_] (fun q=>q.1≤s.ss.length) (fun q Fr0=>((10,natV q.1)::Fr0)) (fun q Fr0=>(.blk b9 [.slice (rowA q.2.1) ((List.range q.1).filter (prF (Yd s x) k.1 w.1)).length q.2.2,.slice none 0 0] 26 :: .row 3 1 q.2.1 ((List.range q.1).filter (prF (Yd s x) k.1 w.1)).length q.2.2 (((List.range q.1).filter (prF (Yd s x) k.1 w.1)).map natV)::Fr0)) (fun q=>s.ss.length - q.1) (0,none,0) (Nat.zero_le _) ⟨rfl,rfl,rfl,rfl,rfl,rfl,rfl,trivial⟩ ⟨[1,0,2,3,4,5,6],by decide,rfl⟩ ?_
 rintro ⟨i,r1,d1⟩ hi
 simp only at hi ⊢
 refine Zb<|Zb<|Za<|gm rfl rfl<|gr rfl (Zd rfl (Xg _))<|gr rfl (Zi Tryz.underlying42 rfl rfl (by exact Zp 6 rfl rfl)) ?_
 refine gr rfl (ZA Tryz.underlying42 rfl)<|gr rfl (ZX rfl rfl) (Zw (fun h18=>?_) (fun h18=>?_))
 ·obtain ⟨t,hti⟩:=get_some (show i<s.ss.length by omega)
  have hsce:=Zfa (x:=x) hti
  have hpl:=Zq3 (prF (Yd s x) k.1 w.1) i
  refine gA<|Zk rfl<|Zv<|Ze<|Zb<|ZB<|Zb<|ZO [0,1,2,3,4,5,6] true 14 rfl<|Zc 0 rfl rfl ⟨[0,1,2,3,4,5,6],by decide,rfl⟩ (Zf (Zd rfl (YR _))) ?_
  refine Zc 1 rfl rfl ⟨[0,1,2,3,4,5,6],by decide,rfl⟩ (Zf (Zi Tryz.underlying3 rfl rfl (by exact Zp 5 rfl rfl))) ?_
  refine Zc 2 rfl rfl ⟨[0,1,2,3,4,5,6],by decide,rfl⟩ (Zf (Z8 rfl rfl)) (Zw (fun hd1=>?_) (fun hd1=>?_))
  ·refine Zc 3 rfl rfl ⟨[0,1,2,3,4,5,6],by decide,rfl⟩ (Zf (Zo rfl)) ?_
   refine ZF 4 rfl rfl rfl rfl rfl ⟨[0,1,2,3,4,5,6],by decide,rfl⟩ ?_
   refine ZF 5 rfl rfl rfl rfl rfl ⟨[0,1,2,3,4,5,6],by decide,rfl⟩ ?_
   refine ZF 6 rfl rfl rfl rfl rfl ⟨[0,1,2,3,4,5,6],by decide,rfl⟩ ?_
   refine ZF 7 rfl rfl rfl rfl rfl ⟨[0,1,2,3,4,5,6],by decide,rfl⟩ ?_
   refine ZF 8 rfl rfl rfl rfl rfl ⟨[0,1,2,3,4,5,6],by decide,rfl⟩ ?_
   refine ZF 9 rfl rfl rfl rfl rfl ⟨[0,1,2,3,4,5,6],by decide,rfl⟩ ?_
   refine ZF 10 rfl rfl rfl rfl rfl ⟨[0,1,2,3,4,5,6],by decide,rfl⟩ ?_
   refine ZF 11 rfl rfl rfl rfl rfl ⟨[0,1,2,3,4,5,6],by decide,rfl⟩ ?_
   refine ZF 12 rfl rfl rfl rfl rfl ⟨[0,1,2,3,4,5,6],by decide,rfl⟩ ?_
   refine Zc 13 rfl rfl ⟨[0,1,2,3,4,5,6],by decide,rfl⟩ (Zf (Zq rfl rfl)) ?_
   refine Zc 14 rfl rfl ⟨[0,1,2,3,4,5,6],by decide,rfl⟩ (Zf (ZY rfl)) ?_
   refine ZP (.inr ⟨[0,1,2,3,4,5,6],by decide,rfl⟩) ?_
   refine Ze<|Zb<|Za<|gm rfl rfl<|gm rfl rfl<|Zg rfl rfl<|Zm rfl (Zd rfl (Yu _))<|Zg rfl rfl (Zm rfl (Zi Tryz.underlying24 rfl rfl (by exact Zp 4 rfl rfl)) ?_)
   refine Zg rfl rfl<|Zm rfl (Zo rfl)<|Zg rfl rfl (ZJ rfl (vf:=[]) (vc:=[]) rfl rfl Tryz.call122 (fun w1 ho=>Zfj k.1 i a1 _ (by omega) (by omega) w1 (h1.at ho)) ?_)
   rintro _ _ ⟨rfl,rfl⟩
   refine Z0 (fun hin=>?_) (fun hin=>?_)
   ·have hsc:Yd s x i=true:=by (rw [hsce,decide_eq_true hd1]; rfl)
    have hg:(prF (Yd s x) k.1 w.1) i=true:=by
     unfold prF
     rw [hsc,hin]; simp
    refine gr rfl (Zq rfl rfl)<|gm rfl rfl<|Zj rfl rfl rfl<|Zj rfl rfl rfl<|Zj rfl rfl rfl<|Z2 rfl rfl rfl<|Z2 rfl rfl rfl<|Z2 rfl rfl rfl<|Z2 rfl rfl rfl<|Zj rfl rfl rfl<|gr rfl (Zq rfl rfl)<|gA<|Zk rfl<|Za<|gr rfl (Zd rfl (Yu _))<|gr rfl (Zi Tryz.underlying24 rfl rfl (by exact Zp 0 rfl rfl)) ?_
    refine gm rfl rfl<|Zt (ZQ (sz:=1) rfl rfl (fun _=>YK _) rfl rfl (fun b55=>?_))
    refine Zt (Yb 2 0 Tryz.underlying24 Y7 rfl (by decide) rfl rfl rfl rfl rfl (by simp [Value.oneCell']) (by omega) (by omega) (fun _=>(by rfl)) (fun r56 c56=>?_))
    refine gr rfl (Zd rfl (Yu _))<|Zt (Yc 1 WG rfl rfl rfl rfl rfl (by rfl) (by rfl) ?_)
    refine ZM<|ZI<|Ze<|Za<|gm rfl rfl<|gr rfl (by exact ZL (b:=1) rfl rfl (by omega)) ?_
    refine gas rfl rfl<|ZM<|Ze ?_
    have ht:=Zkg (k:=i) (g:=prF (Yd s x) k.1 w.1) hg
    rw [show ((List.range i).filter (prF (Yd s x) k.1 w.1)).length+1=((List.range (i+1)).filter (prF (Yd s x) k.1 w.1)).length by rw [ht,List.length_append]; rfl,show ((List.range i).filter (prF (Yd s x) k.1 w.1)).map natV++[natV i]=((List.range (i+1)).filter (prF (Yd s x) k.1 w.1)).map natV by rw [ht,List.map_append]; rfl]
    exact ZR ((i+1,r56,c56)) ⟨by simp only; omega,by simp only; omega⟩ ⟨rfl,rfl,rfl,rfl,rfl,rfl,rfl,trivial⟩ ⟨[1,2,3,4,5,6,7],by decide,rfl⟩
   have hsc:Yd s x i=true:=by (rw [hsce,decide_eq_true hd1]; rfl)
   have hg:(prF (Yd s x) k.1 w.1) i=false:=by
    unfold prF
    rw [hsc,hin]; simp
   refine gr rfl (Zq rfl rfl)<|gm rfl rfl<|Zg rfl rfl<|Zm rfl (Zo rfl)<|Zg rfl rfl<|Zm rfl (rd_not rfl)<|Zg rfl rfl<|Zm rfl (Zo rfl)<|Zj rfl rfl rfl<|Zj rfl rfl rfl<|Zj rfl rfl rfl<|Zj rfl rfl rfl<|Zg rfl rfl<|Zm rfl (Zn rfl rfl)<|gr rfl (Zn rfl rfl)<|gA<|Zl rfl<|Zv<|ZI<|Ze<|Za<|gm rfl rfl<|gr rfl (by exact ZL (b:=1) rfl rfl (by omega)) ?_
   refine gas rfl rfl<|ZM<|Ze ?_
   rw [← Zkh (k:=i) (g:=prF (Yd s x) k.1 w.1) hg]
   exact ZR ((i+1,r1,d1)) ⟨by simp only; omega,by simp only; omega⟩ ⟨rfl,rfl,rfl,rfl,rfl,rfl,rfl,trivial⟩ ⟨[0,1,2,3,4,5,6],by decide,rfl⟩
  refine Zc 3 rfl rfl ⟨[0,1,2,3,4,5,6],by decide,rfl⟩ (Zf (Zo rfl)) ?_
  refine ZG 4 rfl rfl rfl rfl rfl ⟨[0,1,2,3,4,5,6],by decide,rfl⟩ (Zf (Zd rfl (Xg _))) ?_
  refine ZG 5 rfl rfl rfl rfl rfl ⟨[0,1,2,3,4,5,6],by decide,rfl⟩ (Zf (Zi Tryz.underlying42 rfl rfl (by exact Zp 6 rfl rfl))) ?_
  refine ZG 6 rfl rfl rfl rfl rfl ⟨[0,1,2,3,4,5,6],by decide,rfl⟩ (Zf (Zo rfl)) ?_
  refine ZG 7 rfl rfl rfl rfl rfl ⟨[0,1,2,3,4,5,6],by decide,rfl⟩ (Zf (Z3 hS.t Tryz.underlying42 WN rfl rfl (by omega) (by omega))) ?_
  refine ZG 8 rfl rfl rfl rfl rfl ⟨[0,1,2,3,4,5,6],by decide,rfl⟩ (Zf (Zd rfl (VH _))) ?_
  refine ZG 9 rfl rfl rfl rfl rfl ⟨[0,1,2,3,4,5,6],by decide,rfl⟩ (Zf (Zi Tryz.underlying3 rfl rfl (XS hS.t (Y0 St.cells 5 (fun _=>rfl) hti (j:=1) (by decide) rfl)))) ?_
  refine ZG 10 rfl rfl rfl rfl rfl ⟨[0,1,2,3,4,5,6],by decide,rfl⟩ (Zf (Zd rfl (YR _))) ?_
  refine ZG 11 rfl rfl rfl rfl rfl ⟨[0,1,2,3,4,5,6],by decide,rfl⟩ (Zf (Zi Tryz.underlying3 rfl rfl (by exact Zp 5 rfl rfl))) ?_
  refine ZG 12 rfl rfl rfl rfl rfl ⟨[0,1,2,3,4,5,6],by decide,rfl⟩ (Zf (Z8 rfl rfl)) (Zw (fun hd2=>?_) (fun hd2=>?_))
  ·refine Zc 13 rfl rfl ⟨[0,1,2,3,4,5,6],by decide,rfl⟩ (Zf (Zn rfl rfl)) ?_
   refine Zc 14 rfl rfl ⟨[0,1,2,3,4,5,6],by decide,rfl⟩ (Zf (ZY rfl)) ?_
   refine ZP (.inr ⟨[0,1,2,3,4,5,6],by decide,rfl⟩) ?_
   refine Ze<|Zb<|Za<|gm rfl rfl<|gm rfl rfl<|Zg rfl rfl<|Zm rfl (Zd rfl (Yu _))<|Zg rfl rfl (Zm rfl (Zi Tryz.underlying24 rfl rfl (by exact Zp 4 rfl rfl)) ?_)
   refine Zg rfl rfl<|Zm rfl (Zo rfl)<|Zg rfl rfl (ZJ rfl (vf:=[]) (vc:=[]) rfl rfl Tryz.call122 (fun w1 ho=>Zfj k.1 i a1 _ (by omega) (by omega) w1 (h1.at ho)) ?_)
   rintro _ _ ⟨rfl,rfl⟩
   refine Z0 (fun hin=>?_) (fun hin=>?_)
   ·have hsc:Yd s x i=true:=by (rw [hsce,decide_eq_true hd2,Bool.or_true])
    have hg:(prF (Yd s x) k.1 w.1) i=true:=by
     unfold prF
     rw [hsc,hin]; simp
    refine gr rfl (Zq rfl rfl)<|gm rfl rfl<|Zj rfl rfl rfl<|Zj rfl rfl rfl<|Zj rfl rfl rfl<|Z2 rfl rfl rfl<|Z2 rfl rfl rfl<|Z2 rfl rfl rfl<|Z2 rfl rfl rfl<|Zj rfl rfl rfl<|gr rfl (Zq rfl rfl)<|gA<|Zk rfl<|Za<|gr rfl (Zd rfl (Yu _))<|gr rfl (Zi Tryz.underlying24 rfl rfl (by exact Zp 0 rfl rfl)) ?_
    refine gm rfl rfl<|Zt (ZQ (sz:=1) rfl rfl (fun _=>YK _) rfl rfl (fun b55=>?_))
    refine Zt (Yb 2 0 Tryz.underlying24 Y7 rfl (by decide) rfl rfl rfl rfl rfl (by simp [Value.oneCell']) (by omega) (by omega) (fun _=>(by rfl)) (fun r56 c56=>?_))
    refine gr rfl (Zd rfl (Yu _))<|Zt (Yc 1 WG rfl rfl rfl rfl rfl (by rfl) (by rfl) ?_)
    refine ZM<|ZI<|Ze<|Za<|gm rfl rfl<|gr rfl (by exact ZL (b:=1) rfl rfl (by omega)) ?_
    refine gas rfl rfl<|ZM<|Ze ?_
    have ht:=Zkg (k:=i) (g:=prF (Yd s x) k.1 w.1) hg
    rw [show ((List.range i).filter (prF (Yd s x) k.1 w.1)).length+1=((List.range (i+1)).filter (prF (Yd s x) k.1 w.1)).length by rw [ht,List.length_append]; rfl,show ((List.range i).filter (prF (Yd s x) k.1 w.1)).map natV++[natV i]=((List.range (i+1)).filter (prF (Yd s x) k.1 w.1)).map natV by rw [ht,List.map_append]; rfl]
    exact ZR ((i+1,r56,c56)) ⟨by simp only; omega,by simp only; omega⟩ ⟨rfl,rfl,rfl,rfl,rfl,rfl,rfl,trivial⟩ ⟨[1,2,3,4,5,6,7],by decide,rfl⟩
   have hsc:Yd s x i=true:=by (rw [hsce,decide_eq_true hd2,Bool.or_true])
   have hg:(prF (Yd s x) k.1 w.1) i=false:=by
    unfold prF
    rw [hsc,hin]; simp
   refine gr rfl (Zq rfl rfl)<|gm rfl rfl<|Zg rfl rfl<|Zm rfl (Zo rfl)<|Zg rfl rfl<|Zm rfl (rd_not rfl)<|Zg rfl rfl<|Zm rfl (Zo rfl)<|Zj rfl rfl rfl<|Zj rfl rfl rfl<|Zj rfl rfl rfl<|Zj rfl rfl rfl<|Zg rfl rfl<|Zm rfl (Zn rfl rfl)<|gr rfl (Zn rfl rfl)<|gA<|Zl rfl<|Zv<|ZI<|Ze<|Za<|gm rfl rfl<|gr rfl (by exact ZL (b:=1) rfl rfl (by omega)) ?_
   refine gas rfl rfl<|ZM<|Ze ?_
   rw [← Zkh (k:=i) (g:=prF (Yd s x) k.1 w.1) hg]
   exact ZR ((i+1,r1,d1)) ⟨by simp only; omega,by simp only; omega⟩ ⟨rfl,rfl,rfl,rfl,rfl,rfl,rfl,trivial⟩ ⟨[0,1,2,3,4,5,6],by decide,rfl⟩
  refine Zc 13 rfl rfl ⟨[0,1,2,3,4,5,6],by decide,rfl⟩ (Zf (Zn rfl rfl)) ?_
  refine Zc 14 rfl rfl ⟨[0,1,2,3,4,5,6],by decide,rfl⟩ (Zf (ZY rfl)) ?_
  refine ZP (.inr ⟨[0,1,2,3,4,5,6],by decide,rfl⟩) ?_
  refine Ze<|Zb<|Za<|gm rfl rfl<|gm rfl rfl<|Zj rfl rfl rfl<|Zj rfl rfl rfl<|Zj rfl rfl rfl<|Zj rfl rfl rfl<|gr rfl (Zn rfl rfl)<|gm rfl rfl<|Zg rfl rfl<|Zm rfl (Zo rfl)<|Zg rfl rfl<|Zm rfl (rd_not rfl)<|Zg rfl rfl<|Zm rfl (Zo rfl)<|Zg rfl rfl<|Zm rfl (Zd rfl (Yu _))<|Zg rfl rfl (Zm rfl (Zi Tryz.underlying24 rfl rfl (by exact Zp 3 rfl rfl)) ?_)
  refine Zg rfl rfl<|Zm rfl (Zo rfl)<|Zg rfl rfl (ZJ rfl (vf:=[]) (vc:=[]) rfl rfl Tryz.call122 (fun w1 ho=>Zfj w.1 i a3 _ (by omega) (by omega) w1 (h3.at ho)) ?_)
  rintro _ _ ⟨rfl,rfl⟩
  refine Z0 (fun hin=>?_) (fun hin=>?_)
  ·have hsc:Yd s x i=false:=by rw [hsce,decide_eq_false hd1,decide_eq_false hd2]; rfl
   have hg:(prF (Yd s x) k.1 w.1) i=true:=by
    unfold prF
    rw [hsc,hin]; simp
   refine Zg rfl rfl<|Zm rfl (Zq rfl rfl)<|gr rfl (Zn rfl rfl)<|gA<|Zk rfl<|Za<|gr rfl (Zd rfl (Yu _))<|gr rfl (Zi Tryz.underlying24 rfl rfl (by exact Zp 0 rfl rfl)) ?_
   refine gm rfl rfl<|Zt (ZQ (sz:=1) rfl rfl (fun _=>YK _) rfl rfl (fun b55=>?_))
   refine Zt (Yb 2 0 Tryz.underlying24 Y7 rfl (by decide) rfl rfl rfl rfl rfl (by simp [Value.oneCell']) (by omega) (by omega) (fun _=>(by rfl)) (fun r56 c56=>?_))
   refine gr rfl (Zd rfl (Yu _))<|Zt (Yc 1 WG rfl rfl rfl rfl rfl (by rfl) (by rfl) ?_)
   refine ZM<|ZI<|Ze<|Za<|gm rfl rfl<|gr rfl (by exact ZL (b:=1) rfl rfl (by omega)) ?_
   refine gas rfl rfl<|ZM<|Ze ?_
   have ht:=Zkg (k:=i) (g:=prF (Yd s x) k.1 w.1) hg
   rw [show ((List.range i).filter (prF (Yd s x) k.1 w.1)).length+1=((List.range (i+1)).filter (prF (Yd s x) k.1 w.1)).length by rw [ht,List.length_append]; rfl,show ((List.range i).filter (prF (Yd s x) k.1 w.1)).map natV++[natV i]=((List.range (i+1)).filter (prF (Yd s x) k.1 w.1)).map natV by rw [ht,List.map_append]; rfl]
   exact ZR ((i+1,r56,c56)) ⟨by simp only; omega,by simp only; omega⟩ ⟨rfl,rfl,rfl,rfl,rfl,rfl,rfl,trivial⟩ ⟨[1,2,3,4,5,6,7],by decide,rfl⟩
  have hsc:Yd s x i=false:=by rw [hsce,decide_eq_false hd1,decide_eq_false hd2]; rfl
  have hg:(prF (Yd s x) k.1 w.1) i=false:=by
   unfold prF
   rw [hsc,hin]; simp
  refine Zg rfl rfl<|Zm rfl (Zq rfl rfl)<|gr rfl (Zn rfl rfl)<|gA<|Zl rfl<|Zv<|ZI<|Ze<|Za<|gm rfl rfl<|gr rfl (by exact ZL (b:=1) rfl rfl (by omega)) ?_
  refine gas rfl rfl<|ZM<|Ze ?_
  rw [← Zkh (k:=i) (g:=prF (Yd s x) k.1 w.1) hg]
  exact ZR ((i+1,r1,d1)) ⟨by simp only; omega,by simp only; omega⟩ ⟨rfl,rfl,rfl,rfl,rfl,rfl,rfl,trivial⟩ ⟨[0,1,2,3,4,5,6],by decide,rfl⟩
 refine gA<|Zl rfl<|Z1<|Zs<|Zs<|ZE<|Ze<|Zb<|Zb ?_
 have hi9:i=s.ss.length:=by omega
 subst hi9
 refine Za<|gas rfl rfl<|gA<|ZB<|YH 3 1<|ZZ (ι:=Nat × Option Nat × Nat) [(4,_),(5,_),(6,_),(7,_),(8,_),(9,_)] [_,_,_,_,_,_] (fun q=>q.1≤s.cs.length) (fun q Fr0=>((12,natV q.1)::Fr0)) (fun q Fr0=>(.blk b9 [.slice (rowA r1) ((List.range s.ss.length).filter (prF (Yd s x) k.1 w.1)).length d1,.slice (rowA q.2.1) ((List.range q.1).filter (prF (Ye s x) k.2 w.2)).length q.2.2] 26 :: .row 3 1 q.2.1 ((List.range q.1).filter (prF (Ye s x) k.2 w.2)).length q.2.2 (((List.range q.1).filter (prF (Ye s x) k.2 w.2)).map natV)::Fr0)) (fun q=>s.cs.length - q.1) (0,none,0) (Nat.zero_le _) ⟨rfl,rfl,rfl,rfl,rfl,rfl,rfl,trivial⟩ ⟨[1,0,2,3,4,5,6,7],by decide,rfl⟩ ?_
 rintro ⟨i,r2,d2⟩ hi
 simp only at hi ⊢
 refine Zb<|Zb<|Za<|gm rfl rfl<|gr rfl (Zd rfl (XM _))<|gr rfl (Zi Tryz.underlying43 rfl rfl (by exact Zp 7 rfl rfl)) ?_
 refine gr rfl (ZA Tryz.underlying43 rfl)<|gr rfl (ZX rfl rfl) (Zw (fun h62=>?_) (fun h62=>?_))
 ·obtain ⟨t,hti⟩:=get_some (show i<s.cs.length by omega)
  have hsce:=Zfb (x:=x) hti
  have hpl:=Zq3 (prF (Ye s x) k.2 w.2) i
  refine gA<|Zk rfl<|Zv<|Ze<|Zb<|ZB<|Zb<|ZO [0,1,2,3,4,5,6,7] true 14 rfl<|Zc 0 rfl rfl ⟨[0,1,2,3,4,5,6,7],by decide,rfl⟩ (Zf (Zd rfl (YR _))) ?_
  refine Zc 1 rfl rfl ⟨[0,1,2,3,4,5,6,7],by decide,rfl⟩ (Zf (Zi Tryz.underlying3 rfl rfl (by exact Zp 6 rfl rfl))) ?_
  refine Zc 2 rfl rfl ⟨[0,1,2,3,4,5,6,7],by decide,rfl⟩ (Zf (Z8 rfl rfl)) (Zw (fun hd1=>?_) (fun hd1=>?_))
  ·refine Zc 3 rfl rfl ⟨[0,1,2,3,4,5,6,7],by decide,rfl⟩ (Zf (Zo rfl)) ?_
   refine ZF 4 rfl rfl rfl rfl rfl ⟨[0,1,2,3,4,5,6,7],by decide,rfl⟩ ?_
   refine ZF 5 rfl rfl rfl rfl rfl ⟨[0,1,2,3,4,5,6,7],by decide,rfl⟩ ?_
   refine ZF 6 rfl rfl rfl rfl rfl ⟨[0,1,2,3,4,5,6,7],by decide,rfl⟩ ?_
   refine ZF 7 rfl rfl rfl rfl rfl ⟨[0,1,2,3,4,5,6,7],by decide,rfl⟩ ?_
   refine ZF 8 rfl rfl rfl rfl rfl ⟨[0,1,2,3,4,5,6,7],by decide,rfl⟩ ?_
   refine ZF 9 rfl rfl rfl rfl rfl ⟨[0,1,2,3,4,5,6,7],by decide,rfl⟩ ?_
   refine ZF 10 rfl rfl rfl rfl rfl ⟨[0,1,2,3,4,5,6,7],by decide,rfl⟩ ?_
   refine ZF 11 rfl rfl rfl rfl rfl ⟨[0,1,2,3,4,5,6,7],by decide,rfl⟩ ?_
   refine ZF 12 rfl rfl rfl rfl rfl ⟨[0,1,2,3,4,5,6,7],by decide,rfl⟩ ?_
   refine Zc 13 rfl rfl ⟨[0,1,2,3,4,5,6,7],by decide,rfl⟩ (Zf (Zq rfl rfl)) ?_
   refine Zc 14 rfl rfl ⟨[0,1,2,3,4,5,6,7],by decide,rfl⟩ (Zf (ZY rfl)) ?_
   refine ZP (.inr ⟨[0,1,2,3,4,5,6,7],by decide,rfl⟩) ?_
   refine Ze<|Zb<|Za<|gm rfl rfl<|gm rfl rfl<|Zg rfl rfl<|Zm rfl (Zd rfl (Yv _))<|Zg rfl rfl (Zm rfl (Zi Tryz.underlying24 rfl rfl (by exact Zp 5 rfl rfl)) ?_)
   refine Zg rfl rfl<|Zm rfl (Zo rfl)<|Zg rfl rfl (ZJ rfl (vf:=[]) (vc:=[]) rfl rfl Tryz.call122 (fun w1 ho=>Zfj k.2 i a2 _ (by omega) (by omega) w1 (h2.at ho)) ?_)
   rintro _ _ ⟨rfl,rfl⟩
   refine Z0 (fun hin=>?_) (fun hin=>?_)
   ·have hsc:Ye s x i=true:=by (rw [hsce,decide_eq_true hd1]; rfl)
    have hg:(prF (Ye s x) k.2 w.2) i=true:=by
     unfold prF
     rw [hsc,hin]; simp
    refine gr rfl (Zq rfl rfl)<|gm rfl rfl<|Zj rfl rfl rfl<|Zj rfl rfl rfl<|Zj rfl rfl rfl<|Z2 rfl rfl rfl<|Z2 rfl rfl rfl<|Z2 rfl rfl rfl<|Z2 rfl rfl rfl<|Zj rfl rfl rfl<|gr rfl (Zq rfl rfl)<|gA<|Zk rfl<|Za<|gr rfl (Zd rfl (Yv _))<|gr rfl (Zi Tryz.underlying24 rfl rfl (by exact Zp 0 rfl rfl)) ?_
    refine gm rfl rfl<|Zt (ZQ (sz:=1) rfl rfl (fun _=>YK _) rfl rfl (fun b99=>?_))
    refine Zt (Yb 2 0 Tryz.underlying24 Y7 rfl (by decide) rfl rfl rfl rfl rfl (by simp [Value.oneCell']) (by omega) (by omega) (fun _=>(by rfl)) (fun r100 c100=>?_))
    refine gr rfl (Zd rfl (Yv _))<|Zt (Yc 1 WG rfl rfl rfl rfl rfl (by rfl) (by rfl) ?_)
    refine ZM<|ZI<|Ze<|Za<|gm rfl rfl<|gr rfl (by exact ZL (b:=1) rfl rfl (by omega)) ?_
    refine gas rfl rfl<|ZM<|Ze ?_
    have ht:=Zkg (k:=i) (g:=prF (Ye s x) k.2 w.2) hg
    rw [show ((List.range i).filter (prF (Ye s x) k.2 w.2)).length+1=((List.range (i+1)).filter (prF (Ye s x) k.2 w.2)).length by rw [ht,List.length_append]; rfl,show ((List.range i).filter (prF (Ye s x) k.2 w.2)).map natV++[natV i]=((List.range (i+1)).filter (prF (Ye s x) k.2 w.2)).map natV by rw [ht,List.map_append]; rfl]
    exact ZR ((i+1,r100,c100)) ⟨by simp only; omega,by simp only; omega⟩ ⟨rfl,rfl,rfl,rfl,rfl,rfl,rfl,trivial⟩ ⟨[1,2,3,4,5,6,7,8],by decide,rfl⟩
   have hsc:Ye s x i=true:=by (rw [hsce,decide_eq_true hd1]; rfl)
   have hg:(prF (Ye s x) k.2 w.2) i=false:=by
    unfold prF
    rw [hsc,hin]; simp
   refine gr rfl (Zq rfl rfl)<|gm rfl rfl<|Zg rfl rfl<|Zm rfl (Zo rfl)<|Zg rfl rfl<|Zm rfl (rd_not rfl)<|Zg rfl rfl<|Zm rfl (Zo rfl)<|Zj rfl rfl rfl<|Zj rfl rfl rfl<|Zj rfl rfl rfl<|Zj rfl rfl rfl<|Zg rfl rfl<|Zm rfl (Zn rfl rfl)<|gr rfl (Zn rfl rfl)<|gA<|Zl rfl<|Zv<|ZI<|Ze<|Za<|gm rfl rfl<|gr rfl (by exact ZL (b:=1) rfl rfl (by omega)) ?_
   refine gas rfl rfl<|ZM<|Ze ?_
   rw [← Zkh (k:=i) (g:=prF (Ye s x) k.2 w.2) hg]
   exact ZR ((i+1,r2,d2)) ⟨by simp only; omega,by simp only; omega⟩ ⟨rfl,rfl,rfl,rfl,rfl,rfl,rfl,trivial⟩ ⟨[0,1,2,3,4,5,6,7],by decide,rfl⟩
  refine Zc 3 rfl rfl ⟨[0,1,2,3,4,5,6,7],by decide,rfl⟩ (Zf (Zo rfl)) ?_
  refine ZG 4 rfl rfl rfl rfl rfl ⟨[0,1,2,3,4,5,6,7],by decide,rfl⟩ (Zf (Zd rfl (XM _))) ?_
  refine ZG 5 rfl rfl rfl rfl rfl ⟨[0,1,2,3,4,5,6,7],by decide,rfl⟩ (Zf (Zi Tryz.underlying43 rfl rfl (by exact Zp 7 rfl rfl))) ?_
  refine ZG 6 rfl rfl rfl rfl rfl ⟨[0,1,2,3,4,5,6,7],by decide,rfl⟩ (Zf (Zo rfl)) ?_
  refine ZG 7 rfl rfl rfl rfl rfl ⟨[0,1,2,3,4,5,6,7],by decide,rfl⟩ (Zf (Z3 hS.c Tryz.underlying43 WZ rfl rfl (by omega) (by omega))) ?_
  refine ZG 8 rfl rfl rfl rfl rfl ⟨[0,1,2,3,4,5,6,7],by decide,rfl⟩ (Zf (Zd rfl (Wd _))) ?_
  refine ZG 9 rfl rfl rfl rfl rfl ⟨[0,1,2,3,4,5,6,7],by decide,rfl⟩ (Zf (Zi Tryz.underlying3 rfl rfl (XS hS.c (Y0 Cp.cells 6 (fun _=>rfl) hti (j:=1) (by decide) rfl)))) ?_
  refine ZG 10 rfl rfl rfl rfl rfl ⟨[0,1,2,3,4,5,6,7],by decide,rfl⟩ (Zf (Zd rfl (YR _))) ?_
  refine ZG 11 rfl rfl rfl rfl rfl ⟨[0,1,2,3,4,5,6,7],by decide,rfl⟩ (Zf (Zi Tryz.underlying3 rfl rfl (by exact Zp 6 rfl rfl))) ?_
  refine ZG 12 rfl rfl rfl rfl rfl ⟨[0,1,2,3,4,5,6,7],by decide,rfl⟩ (Zf (Z8 rfl rfl)) (Zw (fun hd2=>?_) (fun hd2=>?_))
  ·refine Zc 13 rfl rfl ⟨[0,1,2,3,4,5,6,7],by decide,rfl⟩ (Zf (Zn rfl rfl)) ?_
   refine Zc 14 rfl rfl ⟨[0,1,2,3,4,5,6,7],by decide,rfl⟩ (Zf (ZY rfl)) ?_
   refine ZP (.inr ⟨[0,1,2,3,4,5,6,7],by decide,rfl⟩) ?_
   refine Ze<|Zb<|Za<|gm rfl rfl<|gm rfl rfl<|Zg rfl rfl<|Zm rfl (Zd rfl (Yv _))<|Zg rfl rfl (Zm rfl (Zi Tryz.underlying24 rfl rfl (by exact Zp 5 rfl rfl)) ?_)
   refine Zg rfl rfl<|Zm rfl (Zo rfl)<|Zg rfl rfl (ZJ rfl (vf:=[]) (vc:=[]) rfl rfl Tryz.call122 (fun w1 ho=>Zfj k.2 i a2 _ (by omega) (by omega) w1 (h2.at ho)) ?_)
   rintro _ _ ⟨rfl,rfl⟩
   refine Z0 (fun hin=>?_) (fun hin=>?_)
   ·have hsc:Ye s x i=true:=by (rw [hsce,decide_eq_true hd2,Bool.or_true])
    have hg:(prF (Ye s x) k.2 w.2) i=true:=by
     unfold prF
     rw [hsc,hin]; simp
    refine gr rfl (Zq rfl rfl)<|gm rfl rfl<|Zj rfl rfl rfl<|Zj rfl rfl rfl<|Zj rfl rfl rfl<|Z2 rfl rfl rfl<|Z2 rfl rfl rfl<|Z2 rfl rfl rfl<|Z2 rfl rfl rfl<|Zj rfl rfl rfl<|gr rfl (Zq rfl rfl)<|gA<|Zk rfl<|Za<|gr rfl (Zd rfl (Yv _))<|gr rfl (Zi Tryz.underlying24 rfl rfl (by exact Zp 0 rfl rfl)) ?_
    refine gm rfl rfl<|Zt (ZQ (sz:=1) rfl rfl (fun _=>YK _) rfl rfl (fun b99=>?_))
    refine Zt (Yb 2 0 Tryz.underlying24 Y7 rfl (by decide) rfl rfl rfl rfl rfl (by simp [Value.oneCell']) (by omega) (by omega) (fun _=>(by rfl)) (fun r100 c100=>?_))
    refine gr rfl (Zd rfl (Yv _))<|Zt (Yc 1 WG rfl rfl rfl rfl rfl (by rfl) (by rfl) ?_)
    refine ZM<|ZI<|Ze<|Za<|gm rfl rfl<|gr rfl (by exact ZL (b:=1) rfl rfl (by omega)) ?_
    refine gas rfl rfl<|ZM<|Ze ?_
    have ht:=Zkg (k:=i) (g:=prF (Ye s x) k.2 w.2) hg
    rw [show ((List.range i).filter (prF (Ye s x) k.2 w.2)).length+1=((List.range (i+1)).filter (prF (Ye s x) k.2 w.2)).length by rw [ht,List.length_append]; rfl,show ((List.range i).filter (prF (Ye s x) k.2 w.2)).map natV++[natV i]=((List.range (i+1)).filter (prF (Ye s x) k.2 w.2)).map natV by rw [ht,List.map_append]; rfl]
    exact ZR ((i+1,r100,c100)) ⟨by simp only; omega,by simp only; omega⟩ ⟨rfl,rfl,rfl,rfl,rfl,rfl,rfl,trivial⟩ ⟨[1,2,3,4,5,6,7,8],by decide,rfl⟩
   have hsc:Ye s x i=true:=by (rw [hsce,decide_eq_true hd2,Bool.or_true])
   have hg:(prF (Ye s x) k.2 w.2) i=false:=by
    unfold prF
    rw [hsc,hin]; simp
   refine gr rfl (Zq rfl rfl)<|gm rfl rfl<|Zg rfl rfl<|Zm rfl (Zo rfl)<|Zg rfl rfl<|Zm rfl (rd_not rfl)<|Zg rfl rfl<|Zm rfl (Zo rfl)<|Zj rfl rfl rfl<|Zj rfl rfl rfl<|Zj rfl rfl rfl<|Zj rfl rfl rfl<|Zg rfl rfl<|Zm rfl (Zn rfl rfl)<|gr rfl (Zn rfl rfl)<|gA<|Zl rfl<|Zv<|ZI<|Ze<|Za<|gm rfl rfl<|gr rfl (by exact ZL (b:=1) rfl rfl (by omega)) ?_
   refine gas rfl rfl<|ZM<|Ze ?_
   rw [← Zkh (k:=i) (g:=prF (Ye s x) k.2 w.2) hg]
   exact ZR ((i+1,r2,d2)) ⟨by simp only; omega,by simp only; omega⟩ ⟨rfl,rfl,rfl,rfl,rfl,rfl,rfl,trivial⟩ ⟨[0,1,2,3,4,5,6,7],by decide,rfl⟩
  refine Zc 13 rfl rfl ⟨[0,1,2,3,4,5,6,7],by decide,rfl⟩ (Zf (Zn rfl rfl)) ?_
  refine Zc 14 rfl rfl ⟨[0,1,2,3,4,5,6,7],by decide,rfl⟩ (Zf (ZY rfl)) ?_
  refine ZP (.inr ⟨[0,1,2,3,4,5,6,7],by decide,rfl⟩) ?_
  refine Ze<|Zb<|Za<|gm rfl rfl<|gm rfl rfl<|Zj rfl rfl rfl<|Zj rfl rfl rfl<|Zj rfl rfl rfl<|Zj rfl rfl rfl<|gr rfl (Zn rfl rfl)<|gm rfl rfl<|Zg rfl rfl<|Zm rfl (Zo rfl)<|Zg rfl rfl<|Zm rfl (rd_not rfl)<|Zg rfl rfl<|Zm rfl (Zo rfl)<|Zg rfl rfl<|Zm rfl (Zd rfl (Yv _))<|Zg rfl rfl (Zm rfl (Zi Tryz.underlying24 rfl rfl (by exact Zp 4 rfl rfl)) ?_)
  refine Zg rfl rfl<|Zm rfl (Zo rfl)<|Zg rfl rfl (ZJ rfl (vf:=[]) (vc:=[]) rfl rfl Tryz.call122 (fun w1 ho=>Zfj w.2 i a4 _ (by omega) (by omega) w1 (h4.at ho)) ?_)
  rintro _ _ ⟨rfl,rfl⟩
  refine Z0 (fun hin=>?_) (fun hin=>?_)
  ·have hsc:Ye s x i=false:=by rw [hsce,decide_eq_false hd1,decide_eq_false hd2]; rfl
   have hg:(prF (Ye s x) k.2 w.2) i=true:=by
    unfold prF
    rw [hsc,hin]; simp
   refine Zg rfl rfl<|Zm rfl (Zq rfl rfl)<|gr rfl (Zn rfl rfl)<|gA<|Zk rfl<|Za<|gr rfl (Zd rfl (Yv _))<|gr rfl (Zi Tryz.underlying24 rfl rfl (by exact Zp 0 rfl rfl)) ?_
   refine gm rfl rfl<|Zt (ZQ (sz:=1) rfl rfl (fun _=>YK _) rfl rfl (fun b99=>?_))
   refine Zt (Yb 2 0 Tryz.underlying24 Y7 rfl (by decide) rfl rfl rfl rfl rfl (by simp [Value.oneCell']) (by omega) (by omega) (fun _=>(by rfl)) (fun r100 c100=>?_))
   refine gr rfl (Zd rfl (Yv _))<|Zt (Yc 1 WG rfl rfl rfl rfl rfl (by rfl) (by rfl) ?_)
   refine ZM<|ZI<|Ze<|Za<|gm rfl rfl<|gr rfl (by exact ZL (b:=1) rfl rfl (by omega)) ?_
   refine gas rfl rfl<|ZM<|Ze ?_
   have ht:=Zkg (k:=i) (g:=prF (Ye s x) k.2 w.2) hg
   rw [show ((List.range i).filter (prF (Ye s x) k.2 w.2)).length+1=((List.range (i+1)).filter (prF (Ye s x) k.2 w.2)).length by rw [ht,List.length_append]; rfl,show ((List.range i).filter (prF (Ye s x) k.2 w.2)).map natV++[natV i]=((List.range (i+1)).filter (prF (Ye s x) k.2 w.2)).map natV by rw [ht,List.map_append]; rfl]
   exact ZR ((i+1,r100,c100)) ⟨by simp only; omega,by simp only; omega⟩ ⟨rfl,rfl,rfl,rfl,rfl,rfl,rfl,trivial⟩ ⟨[1,2,3,4,5,6,7,8],by decide,rfl⟩
  have hsc:Ye s x i=false:=by rw [hsce,decide_eq_false hd1,decide_eq_false hd2]; rfl
  have hg:(prF (Ye s x) k.2 w.2) i=false:=by
   unfold prF
   rw [hsc,hin]; simp
  refine Zg rfl rfl<|Zm rfl (Zq rfl rfl)<|gr rfl (Zn rfl rfl)<|gA<|Zl rfl<|Zv<|ZI<|Ze<|Za<|gm rfl rfl<|gr rfl (by exact ZL (b:=1) rfl rfl (by omega)) ?_
  refine gas rfl rfl<|ZM<|Ze ?_
  rw [← Zkh (k:=i) (g:=prF (Ye s x) k.2 w.2) hg]
  exact ZR ((i+1,r2,d2)) ⟨by simp only; omega,by simp only; omega⟩ ⟨rfl,rfl,rfl,rfl,rfl,rfl,rfl,trivial⟩ ⟨[0,1,2,3,4,5,6,7],by decide,rfl⟩
 refine gA<|Zl rfl<|Z1<|Zs<|Zs<|ZE<|Ze<|Zb ?_
 have hi8:i=s.cs.length:=by omega
 subst hi8
 refine Za<|gr rfl (Zr Tryz.underlying26 rfl Z5 rfl (by exact ZH 0 (off:=0) (k:=2) rfl rfl) rfl) ?_
 refine Zt (Zz 3 Z5 rfl rfl rfl rfl rfl rfl (by rfl) ?_)
 refine gA<|Zu<|J2 (.inl rfl) Tryz.results101 (YC Tryz.underlying26 rfl Z5 rfl (by rfl) (ZH 3 (off:=0) (k:=2) rfl rfl)) [2,1] (by decide) ?_
 exact ⟨r1,d1,r2,d2,rfl,rfl⟩
theorem rAll_ok (s:Org) (hnd:s.ds.length≤6) (lv:Int) (w0:World):Sp Tryz.prog 29 [s.val,.int .i64 lv] w0 [] (fun v L=>∃ (r:Option Nat) (c:Nat),v=.slice (rowA r) (YI s.ds.length lv).length c∧L=[.row 23 3 r (YI s.ds.length lv).length c ((YI s.ds.length lv).flatMap Pis.cells)]):=by
 refine ZC Tryz.func29 rfl Tryz.ntmps29 rfl (Own.refl _) ?_
 simp only [ZV]
 refine Zb<|Za<|Zt (Z6 rfl rfl rfl (fun b2=>?_))
 refine gas rfl rfl<|gA<|Zb<|Za<|gas rfl rfl<|gA<|Zb<|Zb<|Za<|gas rfl rfl<|gA<|ZB<|YH 23 3<|ZZ (ι:=Nat × Option Nat × Nat) [(1,_),(2,_)] [_] (fun q=>q.1≤s.ds.length+1) (fun q Fr0=>((6,.int .i64 ((q.1:Int) - 1))::(5,.slice (rowA q.2.1) ((YI s.ds.length lv).take (WI q.1 0)).length q.2.2)::Fr0)) (fun q Fr0=>(.row 23 3 q.2.1 ((YI s.ds.length lv).take (WI q.1 0)).length q.2.2 (((YI s.ds.length lv).take (WI q.1 0)).flatMap Pis.cells)::Fr0)) (fun q=>s.ds.length+1 - q.1) (0,none,0) (Nat.zero_le _) ⟨rfl,rfl,rfl,rfl,trivial⟩ ⟨[0,1],by decide,rfl⟩ ?_
 rintro ⟨d,r,c⟩ hd
 simp only at hd ⊢
 refine Zb<|Zb<|Za<|gm rfl rfl<|gr rfl (Zd rfl (YS _))<|gr rfl (Zi Tryz.underlying40 rfl rfl (by exact Zp 1 rfl rfl)) ?_
 refine gr rfl (ZA Tryz.underlying40 rfl)<|gr rfl (ZX rfl rfl) (Zw (fun h12=>?_) (fun h12=>?_))
 ·refine gA<|Zk rfl<|Zv<|Ze<|Zb<|ZB<|Zb<|Za<|gas rfl rfl<|gA<|ZB<|ZZ (ι:=Nat × Option Nat × Nat) [(1,_),(2,_),(6,_)] [_] (fun q=>q.1≤20) (fun q Fr0=>((7,.int .i64 ((q.1:Int)+1))::(5,.slice (rowA q.2.1) ((YI s.ds.length lv).take (WI d q.1)).length q.2.2)::Fr0)) (fun q Fr0=>(.row 23 3 q.2.1 ((YI s.ds.length lv).take (WI d q.1)).length q.2.2 (((YI s.ds.length lv).take (WI d q.1)).flatMap Pis.cells)::Fr0)) (fun q=>20 - q.1) (0,r,c) (Nat.zero_le _) ⟨rfl,rfl,rfl,rfl,rfl,trivial⟩ ⟨[0,1],by decide,rfl⟩ ?_
  rintro ⟨n,r2,c2⟩ hn
  simp only at hn ⊢
  refine Zb<|Zb<|Za<|gm rfl rfl<|gr rfl (X7 rfl rfl) (Zw (fun h16=>?_) (fun h16=>?_))
  ·have hal:((YI s.ds.length lv).take (WI d n)).length≤1000:=by rw [List.length_take,Ww]; omega
   refine gA<|Zk rfl<|Zv<|Ze<|Zb<|ZB<|Zb<|Za<|gm rfl rfl<|gr rfl (Z8 rfl rfl) (Zw (fun h20=>?_) (fun h20=>?_))
   ·refine gm rfl rfl<|Zj rfl rfl rfl<|Zj rfl rfl rfl<|gr rfl (Zq rfl rfl)<|gA<|Zk rfl<|Za<|gm rfl rfl<|gm rfl rfl<|gm rfl rfl<|gm rfl rfl<|gr rfl (ZT rfl (fun _=>VP _ _ _)) ?_
    refine Zt (ZQ (sz:=3) rfl rfl (fun _=>Jb _ _ _) rfl rfl (fun b30=>?_))
    refine Zt (Yb 1 0 Tryz.underlying56 Yg rfl (by decide) rfl rfl rfl rfl rfl (by simp [Value.oneCell']) (by omega) (by omega) (fun _=>(by rfl)) (fun r31 c31=>?_))
    refine gas rfl rfl<|ZM<|ZI<|Ze<|Za<|gm rfl rfl<|gr rfl (XR rfl rfl (by omega) (by omega)) ?_
    refine gas rfl rfl<|ZM<|Ze ?_
    have hm9:n<XV d:=by unfold XV; split <;> omega
    have ht:((YI s.ds.length lv).take (WI d (n+1)))=((YI s.ds.length lv).take (WI d n))++[⟨lv,(d:Int) - 1,(n:Int)+1⟩]:=by rw [(Zgx hm9).1,(Zgx hm9).2]; exact Zkf (by omega) hm9
    rw [show ((YI s.ds.length lv).take (WI d n)).length+1=((YI s.ds.length lv).take (WI d (n+1))).length by rw [ht,List.length_append]; rfl,show ((YI s.ds.length lv).take (WI d n)).flatMap Pis.cells++[.int .i64 lv,.int .i64 ((d:Int) - 1),.int .i64 ((n:Int)+1)]=((YI s.ds.length lv).take (WI d (n+1))).flatMap Pis.cells by rw [ht,List.flatMap_append]; rfl]
    exact ZR ((n+1,r31,c31)) ⟨by simp only; omega,by simp only; omega⟩ ⟨rfl,rfl,rfl,rfl,rfl,trivial⟩ ⟨[1,2],by decide,rfl⟩
   refine gm rfl rfl<|Zg rfl rfl<|Zm rfl (Zo rfl)<|Zg rfl rfl (Zm rfl (X7 rfl rfl) (Zw (fun h23=>?_) (fun h23=>?_)))
   ·refine gr rfl (Zn rfl rfl)<|gA<|Zk rfl<|Za<|gm rfl rfl<|gm rfl rfl<|gm rfl rfl<|gm rfl rfl<|gr rfl (ZT rfl (fun _=>VP _ _ _)) ?_
    refine Zt (ZQ (sz:=3) rfl rfl (fun _=>Jb _ _ _) rfl rfl (fun b30=>?_))
    refine Zt (Yb 1 0 Tryz.underlying56 Yg rfl (by decide) rfl rfl rfl rfl rfl (by simp [Value.oneCell']) (by omega) (by omega) (fun _=>(by rfl)) (fun r31 c31=>?_))
    refine gas rfl rfl<|ZM<|ZI<|Ze<|Za<|gm rfl rfl<|gr rfl (XR rfl rfl (by omega) (by omega)) ?_
    refine gas rfl rfl<|ZM<|Ze ?_
    have hm9:n<XV d:=by unfold XV; split <;> omega
    have ht:((YI s.ds.length lv).take (WI d (n+1)))=((YI s.ds.length lv).take (WI d n))++[⟨lv,(d:Int) - 1,(n:Int)+1⟩]:=by rw [(Zgx hm9).1,(Zgx hm9).2]; exact Zkf (by omega) hm9
    rw [show ((YI s.ds.length lv).take (WI d n)).length+1=((YI s.ds.length lv).take (WI d (n+1))).length by rw [ht,List.length_append]; rfl,show ((YI s.ds.length lv).take (WI d n)).flatMap Pis.cells++[.int .i64 lv,.int .i64 ((d:Int) - 1),.int .i64 ((n:Int)+1)]=((YI s.ds.length lv).take (WI d (n+1))).flatMap Pis.cells by rw [ht,List.flatMap_append]; rfl]
    exact ZR ((n+1,r31,c31)) ⟨by simp only; omega,by simp only; omega⟩ ⟨rfl,rfl,rfl,rfl,rfl,trivial⟩ ⟨[1,2],by decide,rfl⟩
   refine gr rfl (Zn rfl rfl)<|gA<|Zl rfl<|Zv<|ZI<|Ze<|Za<|gm rfl rfl<|gr rfl (XR rfl rfl (by omega) (by omega)) ?_
   refine gas rfl rfl<|ZM<|Ze ?_
   rw [← cntB_out (d:=d) (n:=n) (by unfold XV; split <;> omega)]
   exact ZR ((n+1,r2,c2)) ⟨by simp only; omega,by simp only; omega⟩ ⟨rfl,rfl,rfl,rfl,rfl,trivial⟩ ⟨[0,1],by decide,rfl⟩
  refine gA<|Zl rfl<|Z1<|Zs<|Zs<|ZE<|ZI<|Ze<|Za<|gm rfl rfl<|gr rfl (XR rfl rfl (by omega) (by omega)) ?_
  refine gas rfl rfl<|ZM<|Ze ?_
  have hn20:n=20:=by omega
  subst hn20
  rw [show WI d 20=WI (d+1) 0 by rw [cntB_end,Zke],show ((d:Int) - 1+1)=((d+1:Nat):Int) - 1 by omega]
  exact ZR ((d+1,r2,c2)) ⟨by simp only; omega,by simp only; omega⟩ ⟨rfl,rfl,rfl,rfl,trivial⟩ ⟨[0,1],by decide,rfl⟩
 refine gA<|Zl rfl<|Z1<|Zs<|Zs<|ZE<|Ze<|Zb ?_
 have hd9:d=s.ds.length+1:=by omega
 subst hd9
 rw [show ((YI s.ds.length lv).take (WI (s.ds.length+1) 0))=YI s.ds.length lv by rw [Zke,Znx lv,List.take_length]]
 refine Za<|gm rfl rfl<|gas rfl rfl<|gA<|Zu<|Zy (.inl rfl) Tryz.results29 rfl [0] (by decide) ?_
 exact ⟨r,c,rfl,rfl⟩
theorem Zq4 (s:Org) (room:Nat) (t:RH) (S:List Nat) (w0:World) (hown:Own w0 S w0 (t.hd s room)) (hU:t.U.length≤1000) (hroom:room≤1000) (x:Pis):Sp Tryz.prog 103 [.pointer (some ⟨t.br,0,none⟩),Pis.val x] w0 S (fun v L=>(Vt room t.U x∧v=.int .i64 5∧L=t.hd s room)∨(¬ Vt room t.U x∧v=.int .i64 0∧∃ (ru:Option Nat) (cu:Nat),L=({ t with ru:=ru,cu:=cu,U:=Xc t.U x }:RH).hd s room)):=by
 refine ZC Tryz.func103 rfl Tryz.ntmps103 rfl hown ?_
 simp only [ZV]
 refine Zb<|Za<|Zt (Z6 rfl rfl rfl (fun b3=>?_))
 refine gas rfl rfl<|gA<|Zb<|Zb<|Za<|gas rfl rfl<|gA<|ZB<|ZZ (ι:=Nat) [(0,_),(3,_)] [_,_,_,_] (fun k=>k≤t.U.length∧x ∉ t.U.take k) (fun k Fr0=>((5,natV k)::Fr0)) (fun k Fr0=>Fr0) (fun k=>t.U.length - k) 0 (⟨Nat.zero_le _,by simp⟩) ⟨rfl,rfl,rfl,trivial⟩ ⟨[0,1,2,3],by decide,rfl⟩ ?_
 rintro k ⟨hk,hno⟩
 refine Zb<|Zb<|Za<|gm rfl rfl<|gm rfl rfl<|gnc rfl rfl<|gr rfl (Zd rfl (Zds _))<|gr rfl (Zi Tryz.underlying56 rfl rfl (by exact Zp 1 rfl rfl)) ?_
 refine gr rfl (ZA Tryz.underlying56 rfl)<|gr rfl (ZX rfl rfl) (Zw (fun h12=>?_) (fun h12=>?_))
 ·obtain ⟨u,hu⟩:=get_some (show k<t.U.length by omega)
  refine gA<|Zk rfl<|Zv<|Ze<|Zb<|ZB<|Zb<|ZO [0,1,2,3] true 8 rfl<|Zc 0 rfl rfl ⟨[0,1,2,3],by decide,rfl⟩ (Zf (Zo rfl)) ?_
  refine Zc 1 rfl rfl ⟨[0,1,2,3],by decide,rfl⟩ (Zf (ZN rfl)) ?_
  refine Zc 2 rfl rfl ⟨[0,1,2,3],by decide,rfl⟩ (Zf (Zd rfl (Zds _))) ?_
  refine Zc 3 rfl rfl ⟨[0,1,2,3],by decide,rfl⟩ (Zf (Zi Tryz.underlying56 rfl rfl (by exact Zp 1 rfl rfl))) ?_
  refine Zc 4 rfl rfl ⟨[0,1,2,3],by decide,rfl⟩ (Zf (Zo rfl)) ?_
  refine Zc 5 rfl rfl ⟨[0,1,2,3],by decide,rfl⟩ (Zf (by exact YT 2 rfl Tryz.underlying56 Yg rfl rfl (by omega) (by omega))) ?_
  refine Zc 6 rfl rfl ⟨[0,1,2,3],by decide,rfl⟩ (Zf (Zr Tryz.underlying23 rfl Yg rfl (Zcb 2 rfl (Yf Pis.cells 3 (fun _=>rfl) hu)) rfl)) ?_
  refine Zc 7 rfl rfl ⟨[0,1,2,3],by decide,rfl⟩ (Zf (Zr Tryz.underlying23 rfl Yg rfl (by exact ZH 0 (off:=0) (k:=3) rfl rfl) rfl)) ?_
  refine Zc 8 rfl rfl ⟨[0,1,2,3],by decide,rfl⟩ (Zf (Zma (a:=u.lv) (b:=u.dv) (m:=u.nm) (c:=x.lv) (d:=x.dv) (o:=x.nm) Zc8 (by kernel_rfl) rfl rfl)) ?_
  refine Z0 (fun h23=>?_) (fun h23=>?_)
  ·have hq:u=x:=(Zc9 _ _).1 (by simpa using h23)
   have hin:x∈t.U:=hq ▸ List.mem_of_getElem? hu
   refine ZP (.inr ⟨[0,1,2,3],by decide,rfl⟩) ?_
   refine Ze<|Zk rfl<|Zb<|Za<|gas rfl rfl<|gA<|Zu<|Zx<|Zh<|Zh<|Zx<|Zh<|ZW (.inl rfl) Tryz.results103 rfl ⟨[1,2,3],by decide,rfl⟩ ?_
   exact .inr ⟨fun h=>h.1 hin,rfl,t.ru,t.cu,by rw [used_in hin]; rfl⟩
  have hq:¬ u=x:=fun h=>by subst h; simp at h23
  refine ZP (.inr ⟨[0,1,2,3],by decide,rfl⟩) ?_
  refine Ze<|Zl rfl<|Zv<|ZI<|Ze<|Za<|gm rfl rfl<|gr rfl (by exact ZL (b:=1) rfl rfl (by omega)) ?_
  refine gas rfl rfl<|ZM<|Ze ?_
  exact ZR (k+1) ⟨⟨by omega,by rw [take_at hu,List.mem_append]; exact fun h=>h.elim hno (fun h=>hq (List.mem_singleton.1 h).symm)⟩,by omega⟩ ⟨rfl,rfl,rfl,trivial⟩ ⟨[0,1,2,3],by decide,rfl⟩
 refine gA<|Zl rfl<|Z1<|Zs<|Zs<|ZE<|Ze<|Zb<|Zb ?_
 rw [List.take_of_length_le (by omega)] at hno
 refine ZO [0,1,2,3] true 10 rfl<|Zc 0 rfl rfl ⟨[0,1,2,3],by decide,rfl⟩ (Zf (Zo rfl)) ?_
 refine Zc 1 rfl rfl ⟨[0,1,2,3],by decide,rfl⟩ (Zf (ZN rfl)) ?_
 refine Zc 2 rfl rfl ⟨[0,1,2,3],by decide,rfl⟩ (Zf (Zd rfl (Zds _))) ?_
 refine Zc 3 rfl rfl ⟨[0,1,2,3],by decide,rfl⟩ (Zf (Zi Tryz.underlying56 rfl rfl (by exact Zp 1 rfl rfl))) ?_
 refine Zc 4 rfl rfl ⟨[0,1,2,3],by decide,rfl⟩ (Zf (ZA Tryz.underlying56 rfl)) ?_
 refine Zc 5 rfl rfl ⟨[0,1,2,3],by decide,rfl⟩ (Zf (by exact ZL (b:=1) rfl rfl (by omega))) ?_
 refine Zc 6 rfl rfl ⟨[0,1,2,3],by decide,rfl⟩ (Zf (Zo rfl)) ?_
 refine Zc 7 rfl rfl ⟨[0,1,2,3],by decide,rfl⟩ (Zf (ZN rfl)) ?_
 refine Zc 8 rfl rfl ⟨[0,1,2,3],by decide,rfl⟩ (Zf (Zd rfl (fa_76_1 _))) ?_
 refine Zc 9 rfl rfl ⟨[0,1,2,3],by decide,rfl⟩ (Zf (Zi Tryz.underlying3 rfl rfl (by exact Zp 1 rfl rfl))) ?_
 refine Zc 10 rfl rfl ⟨[0,1,2,3],by decide,rfl⟩ (Zf (Xs rfl rfl)) (Zw (fun h34=>?_) (fun h34=>?_))
 ·refine ZP (.inr ⟨[0,1,2,3],by decide,rfl⟩) ?_
  refine Ze<|Zk rfl<|Zb<|Za<|gas rfl rfl<|gA<|Zu<|Zh<|ZW (.inl rfl) Tryz.results103 rfl ⟨[1,2,3],by decide,rfl⟩ ?_
  exact .inl ⟨⟨hno,by omega⟩,rfl,rfl⟩
 refine ZP (.inr ⟨[0,1,2,3],by decide,rfl⟩) ?_
 refine Ze<|Zl rfl<|Zv<|Ze<|Zb<|ZO [0,1,3] false 10 rfl<|Zc 0 rfl rfl ⟨[0,1,3],by decide,rfl⟩ (Zf (Zo rfl)) ?_
 refine Zc 1 rfl rfl ⟨[0,1,3],by decide,rfl⟩ (Zf (Zo rfl)) ?_
 refine Zc 2 rfl rfl ⟨[0,1,3],by decide,rfl⟩ (Zf (ZN rfl)) ?_
 refine Zc 3 rfl rfl ⟨[0,1,3],by decide,rfl⟩ (Zf (Zd rfl (Zds _))) ?_
 refine Zc 4 rfl rfl ⟨[0,1,3],by decide,rfl⟩ (Zf (Zi Tryz.underlying56 rfl rfl (by exact Zp 1 rfl rfl))) ?_
 refine Zc 5 rfl rfl ⟨[0,1,3],by decide,rfl⟩ (Zf (Zr Tryz.underlying23 rfl Yg rfl (by exact ZH 0 (off:=0) (k:=3) rfl rfl) rfl)) ?_
 refine ZK 6 rfl (.inr ⟨[0,1,3],by decide,rfl⟩) (ZQ (sz:=3) rfl rfl (fun _=>Jb _ _ _) rfl rfl (fun b41=>?_))
 refine ZK 7 rfl (.inr ⟨[1,2,4],by decide,rfl⟩) (Yb 3 0 Tryz.underlying56 Yg rfl (by decide) rfl rfl rfl rfl rfl (by simp [Value.oneCell']) (by omega) (by omega) (fun _=>(by rfl)) (fun r42 c42=>?_))
 refine ZK 8 rfl (.inr ⟨[1,2,4],by decide,rfl⟩) (Zm rfl (ZN rfl) ?_)
 refine Zc 9 rfl rfl ⟨[1,2,4],by decide,rfl⟩ (Zf (Zd rfl (Zds _))) ?_
 refine ZK 10 rfl (.inr ⟨[1,2,4],by decide,rfl⟩) (Yc 2 ty_56 rfl rfl rfl rfl rfl (by rfl) (by rfl) ?_)
 refine ZP (.inl (by kernel_rfl)) ?_
 refine Ze<|Zb ?_
 rw [show t.U.length+1=(t.U++[x]).length by simp,show t.U.flatMap Pis.cells++[.int .i64 x.lv,.int .i64 x.dv,.int .i64 x.nm]=(t.U++[x]).flatMap Pis.cells by simp]
 refine Za<|gas rfl rfl<|gA<|Zu<|ZW (.inl rfl) Tryz.results103 rfl ⟨[2,3,4],by decide,rfl⟩ ?_
 exact .inr ⟨fun h=>by have h2:room≤t.U.length+1:=h.2; omega,rfl,r42,c42,by rw [used_no hno]; rfl⟩
theorem Zak (s:Org) (room:Nat) (t:RH) (S:List Nat) (w0:World) (hown:Own w0 S w0 (t.hd s room)) (hl:t.L.length≤1000) (e:KE):Sp Tryz.prog 104 [.pointer (some ⟨t.br,0,none⟩),Pis.val e.x,.agg #[.slice e.a1 e.r.1.length e.c1,.slice e.a2 e.r.2.length e.c2]] w0 S (fun v L=>v=.tuple #[]∧∃ (rl:Option Nat) (cl:Nat),L=({ t with rl:=rl,cl:=cl,L:=W9 t.L e }:RH).hd s room):=by
 refine ZC Tryz.func104 rfl Tryz.ntmps104 rfl hown ?_
 simp only [ZV]
 refine Zb<|Za<|Zt (Z6 rfl rfl rfl (fun b4=>?_))
 refine Zt (Z6 rfl rfl rfl (fun b5=>?_))
 refine gA<|Zb<|Za<|gas rfl rfl<|gA<|Zb<|Za<|gas rfl rfl<|gA<|Zb<|Zb<|Za<|gas rfl rfl<|gA<|ZB<|YH 176 5<|ZZ (ι:=Nat × Option Nat × Nat × List KE × Bool) [(0,_),(4,_),(5,_)] [_,_,_,_,_] (fun q=>q.1≤t.L.length∧(q.2.2.2.1,q.2.2.2.2)=kfold (t.L.take q.1) e) (fun q Fr0=>((6,.slice (rowA q.2.1) q.2.2.2.1.length q.2.2.1)::(7,.bool q.2.2.2.2)::(8,natV q.1)::Fr0)) (fun q Fr0=>(.row 176 5 q.2.1 q.2.2.2.1.length q.2.2.1 (q.2.2.2.1.flatMap keC)::Fr0)) (fun q=>t.L.length - q.1) (0,none,0,[],false) (⟨Nat.zero_le _,rfl⟩) ⟨rfl,rfl,rfl,rfl,rfl,rfl,trivial⟩ ⟨[0,1,2,3,4,5],by decide,rfl⟩ ?_
 rintro ⟨k,ro,co,out,fb⟩ ⟨hk,hf⟩
 simp only at hk hf ⊢
 refine Zb<|Zb<|Za<|gm rfl rfl<|gm rfl rfl<|gnc rfl rfl<|gr rfl (Zd rfl (Y6 _))<|gr rfl (Zi Tryz.underlying74 rfl rfl (by exact Zp 3 rfl rfl)) ?_
 refine gr rfl (ZA Tryz.underlying74 rfl)<|gr rfl (ZX rfl rfl) (Zw (fun h15=>?_) (fun h15=>?_))
 ·obtain ⟨e1,hx⟩:=get_some (show k<t.L.length by omega)
  have hlen:out.length≤k+1:=by have h:=Zob (t.L.take k) e; rw [← hf] at h; simp at h; omega
  cases fb
  ·refine gA<|Zk rfl<|Zv<|Ze<|Zb<|ZB<|Zb<|Zb<|ZO [0,1,2,3,4,5] true 14 rfl<|Zc 0 rfl rfl ⟨[0,1,2,3,4,5],by decide,rfl⟩ (Zf (Zo rfl)) ?_
   refine Zc 1 rfl rfl ⟨[0,1,2,3,4,5],by decide,rfl⟩ (Zf (rd_not rfl)) ?_
   refine Zc 2 rfl rfl ⟨[0,1,2,3,4,5],by decide,rfl⟩ (Zf (Zo rfl)) ?_
   refine ZG 3 rfl rfl rfl rfl rfl ⟨[0,1,2,3,4,5],by decide,rfl⟩ (Zf (Zo rfl)) ?_
   refine ZG 4 rfl rfl rfl rfl rfl ⟨[0,1,2,3,4,5],by decide,rfl⟩ (Zf (ZN rfl)) ?_
   refine ZG 5 rfl rfl rfl rfl rfl ⟨[0,1,2,3,4,5],by decide,rfl⟩ (Zf (Zd rfl (Y6 _))) ?_
   refine ZG 6 rfl rfl rfl rfl rfl ⟨[0,1,2,3,4,5],by decide,rfl⟩ (Zf (Zi Tryz.underlying74 rfl rfl (by exact Zp 3 rfl rfl))) ?_
   refine ZG 7 rfl rfl rfl rfl rfl ⟨[0,1,2,3,4,5],by decide,rfl⟩ (Zf (Zo rfl)) ?_
   refine ZG 8 rfl rfl rfl rfl rfl ⟨[0,1,2,3,4,5],by decide,rfl⟩ (Zf (by exact YT 5 rfl Tryz.underlying74 Xe rfl rfl (by omega) (by omega))) ?_
   refine ZG 9 rfl rfl rfl rfl rfl ⟨[0,1,2,3,4,5],by decide,rfl⟩ (Zf (Zd rfl (Vl _))) ?_
   refine ZG 10 rfl rfl rfl rfl rfl ⟨[0,1,2,3,4,5],by decide,rfl⟩ (Zf (Zr Tryz.underlying23 rfl Yg rfl (V8 5 rfl (YD keC 5 (fun _=>rfl) hx (j:=0) (n:=3) (by decide))) rfl)) ?_
   refine ZG 11 rfl rfl rfl rfl rfl ⟨[0,1,2,3,4,5],by decide,rfl⟩ (Zf (Zr Tryz.underlying23 rfl Yg rfl (by exact ZH 2 (off:=0) (k:=3) rfl rfl) rfl)) ?_
   refine ZG 12 rfl rfl rfl rfl rfl ⟨[0,1,2,3,4,5],by decide,rfl⟩ (YE (vf:=[]) (vc:=[]) rfl rfl Tryz.call123 (fun w1 ho=>rLess_ok e1.x e.x w1) (by rintro _ _ ⟨h,_⟩; exact h)) ?_
   refine Z0 (fun hls=>?_) (fun hls=>?_)
   ·refine ZG 13 rfl rfl rfl rfl rfl ⟨[0,1,2,3,4,5],by decide,rfl⟩ (Zf (rd_not rfl)) ?_
    refine Zc 14 rfl rfl ⟨[0,1,2,3,4,5],by decide,rfl⟩ (Zf (Zq rfl rfl)) ?_
    refine ZP (.inr ⟨[0,1,2,3,4,5],by decide,rfl⟩) ?_
    refine Ze<|Zl rfl<|Zv<|Ze<|Zb<|ZO [0,1,2,3,4,5] true 9 rfl<|Zc 0 rfl rfl ⟨[0,1,2,3,4,5],by decide,rfl⟩ (Zf (Zo rfl)) ?_
    refine Zc 1 rfl rfl ⟨[0,1,2,3,4,5],by decide,rfl⟩ (Zf (ZN rfl)) ?_
    refine Zc 2 rfl rfl ⟨[0,1,2,3,4,5],by decide,rfl⟩ (Zf (Zd rfl (Y6 _))) ?_
    refine Zc 3 rfl rfl ⟨[0,1,2,3,4,5],by decide,rfl⟩ (Zf (Zi Tryz.underlying74 rfl rfl (by exact Zp 3 rfl rfl))) ?_
    refine Zc 4 rfl rfl ⟨[0,1,2,3,4,5],by decide,rfl⟩ (Zf (Zo rfl)) ?_
    refine Zc 5 rfl rfl ⟨[0,1,2,3,4,5],by decide,rfl⟩ (Zf (by exact YT 5 rfl Tryz.underlying74 Xe rfl rfl (by omega) (by omega))) ?_
    refine Zc 6 rfl rfl ⟨[0,1,2,3,4,5],by decide,rfl⟩ (Zf (Zd rfl (Vl _))) ?_
    refine Zc 7 rfl rfl ⟨[0,1,2,3,4,5],by decide,rfl⟩ (Zf (Zr Tryz.underlying23 rfl Yg rfl (V8 5 rfl (YD keC 5 (fun _=>rfl) hx (j:=0) (n:=3) (by decide))) rfl)) ?_
    refine Zc 8 rfl rfl ⟨[0,1,2,3,4,5],by decide,rfl⟩ (Zf (Zr Tryz.underlying23 rfl Yg rfl (by exact ZH 2 (off:=0) (k:=3) rfl rfl) rfl)) ?_
    refine Zc 9 rfl rfl ⟨[0,1,2,3,4,5],by decide,rfl⟩ (Zf (Zbi (a:=e1.x.lv) (b:=e1.x.dv) (m:=e1.x.nm) (c:=e.x.lv) (d:=e.x.dv) (o:=e.x.nm) Zc8 (by kernel_rfl) rfl rfl)) ?_
    refine Z0 (fun h48=>?_) (fun h48=>?_)
    ·have hq:¬ e1.x=e.x:=fun h=>by rw [h] at h48; simp at h48
     refine ZP (.inr ⟨[0,1,2,3,4,5],by decide,rfl⟩) ?_
     refine Ze<|Zk rfl<|Za<|gm rfl rfl<|gm rfl rfl<|gnc rfl rfl<|gr rfl (Zd rfl (Y6 _))<|gr rfl (Zi Tryz.underlying74 rfl rfl (by exact Zp 3 rfl rfl)) ?_
     refine gm rfl rfl<|gr rfl (by exact YT 5 rfl Tryz.underlying74 Xe rfl rfl (by omega) (by omega)) ?_
     refine gr rfl (Zr Tryz.underlying176 rfl Xe rfl (Zcb 5 rfl (Yf keC 5 (fun _=>rfl) hx)) rfl) ?_
     refine Zt (ZQ (sz:=5) rfl rfl (fun _=>Jc _ _ _ _ _ _ _ _ _) rfl rfl (fun b57=>?_))
     refine Zt (Yb 1 0 Tryz.underlying74 Xe rfl (by decide) rfl rfl rfl rfl rfl (by simp [Value.oneCell']) (by omega) (by omega) (fun _=>(by rfl)) (fun r58 c58=>?_))
     refine gas rfl rfl<|ZM<|ZI<|Ze<|Za<|gm rfl rfl<|gr rfl (by exact ZL (b:=1) rfl rfl (by omega)) ?_
     refine gas rfl rfl<|ZM<|Ze ?_
     rw [show out.length+1=(out++[e1]).length by simp,show out.flatMap keC++[.int .i64 e1.x.lv,.int .i64 e1.x.dv,.int .i64 e1.x.nm,.slice e1.a1 e1.r.1.length e1.c1,.slice e1.a2 e1.r.2.length e1.c2]=(out++[e1]).flatMap keC by simp]
     exact ZR ((k+1,r58,c58,out++[e1],false)) ⟨⟨by simp only; omega,by rw [Zaj e hx,← hf,kstep_lf hls hq]⟩,by simp only; omega⟩ ⟨rfl,rfl,rfl,rfl,rfl,rfl,trivial⟩ ⟨[1,2,3,4,5,6],by decide,rfl⟩
    have hq:e1.x=e.x:=(Zc9 _ _).1 (by simpa using h48)
    refine ZP (.inr ⟨[0,1,2,3,4,5],by decide,rfl⟩) ?_
    refine Ze<|Zl rfl<|Zv<|ZI<|Ze<|Za<|gm rfl rfl<|gr rfl (by exact ZL (b:=1) rfl rfl (by omega)) ?_
    refine gas rfl rfl<|ZM<|Ze ?_
    exact ZR ((k+1,ro,co,out,false)) ⟨⟨by simp only; omega,by rw [Zaj e hx,← hf,kstep_le hls hq]⟩,by simp only; omega⟩ ⟨rfl,rfl,rfl,rfl,rfl,rfl,trivial⟩ ⟨[0,1,2,3,4,5],by decide,rfl⟩
   refine ZG 13 rfl rfl rfl rfl rfl ⟨[0,1,2,3,4,5],by decide,rfl⟩ (Zf (rd_not rfl)) ?_
   refine Zc 14 rfl rfl ⟨[0,1,2,3,4,5],by decide,rfl⟩ (Zf (Zq rfl rfl)) ?_
   refine ZP (.inr ⟨[0,1,2,3,4,5],by decide,rfl⟩) ?_
   refine Ze<|Zk rfl<|Zb<|Za<|gm rfl rfl<|gr rfl (Zr Tryz.underlying23 rfl Yg rfl (by exact ZH 2 (off:=0) (k:=3) rfl rfl) rfl) ?_
   refine gr rfl (Zr Tryz.underlying26 rfl Z5 rfl (by exact ZH 1 (off:=0) (k:=2) rfl rfl) rfl) ?_
   refine gr rfl (ZT rfl (fun _=>Zhk _ _ _ _ _ _ _ _ _)) ?_
   refine Zt (ZQ (sz:=5) rfl rfl (fun _=>Jc _ _ _ _ _ _ _ _ _) rfl rfl (fun b37=>?_))
   refine Zt (Yb 1 0 Tryz.underlying74 Xe rfl (by decide) rfl rfl rfl rfl rfl (by simp [Value.oneCell']) (by omega) (by omega) (fun _=>(by rfl)) (fun r38 c38=>?_))
   refine gas rfl rfl<|ZM<|Ze ?_
   rw [show out.length+1=(out++[e]).length by simp,show out.flatMap keC++[.int .i64 e.x.lv,.int .i64 e.x.dv,.int .i64 e.x.nm,.slice e.a1 e.r.1.length e.c1,.slice e.a2 e.r.2.length e.c2]=(out++[e]).flatMap keC by simp]
   have hlen2:(out++[e]).length≤k+2:=by simp; omega
   refine Za<|gas rfl rfl<|gA<|Zb<|ZO [0,1,2,3,4,5,6] true 9 rfl<|Zc 0 rfl rfl ⟨[0,1,2,3,4,5,6],by decide,rfl⟩ (Zf (Zo rfl)) ?_
   refine Zc 1 rfl rfl ⟨[0,1,2,3,4,5,6],by decide,rfl⟩ (Zf (ZN rfl)) ?_
   refine Zc 2 rfl rfl ⟨[0,1,2,3,4,5,6],by decide,rfl⟩ (Zf (Zd rfl (Y6 _))) ?_
   refine Zc 3 rfl rfl ⟨[0,1,2,3,4,5,6],by decide,rfl⟩ (Zf (Zi Tryz.underlying74 rfl rfl (by exact Zp 4 rfl rfl))) ?_
   refine Zc 4 rfl rfl ⟨[0,1,2,3,4,5,6],by decide,rfl⟩ (Zf (Zo rfl)) ?_
   refine Zc 5 rfl rfl ⟨[0,1,2,3,4,5,6],by decide,rfl⟩ (Zf (by exact YT 6 rfl Tryz.underlying74 Xe rfl rfl (by omega) (by omega))) ?_
   refine Zc 6 rfl rfl ⟨[0,1,2,3,4,5,6],by decide,rfl⟩ (Zf (Zd rfl (Vl _))) ?_
   refine Zc 7 rfl rfl ⟨[0,1,2,3,4,5,6],by decide,rfl⟩ (Zf (Zr Tryz.underlying23 rfl Yg rfl (V8 6 rfl (YD keC 5 (fun _=>rfl) hx (j:=0) (n:=3) (by decide))) rfl)) ?_
   refine Zc 8 rfl rfl ⟨[0,1,2,3,4,5,6],by decide,rfl⟩ (Zf (Zr Tryz.underlying23 rfl Yg rfl (by exact ZH 3 (off:=0) (k:=3) rfl rfl) rfl)) ?_
   refine Zc 9 rfl rfl ⟨[0,1,2,3,4,5,6],by decide,rfl⟩ (Zf (Zbi (a:=e1.x.lv) (b:=e1.x.dv) (m:=e1.x.nm) (c:=e.x.lv) (d:=e.x.dv) (o:=e.x.nm) Zc8 (by kernel_rfl) rfl rfl)) ?_
   refine Z0 (fun h48=>?_) (fun h48=>?_)
   ·have hq:¬ e1.x=e.x:=fun h=>by rw [h] at h48; simp at h48
    refine ZP (.inr ⟨[0,1,2,3,4,5,6],by decide,rfl⟩) ?_
    refine Ze<|Zk rfl<|Za<|gm rfl rfl<|gm rfl rfl<|gnc rfl rfl<|gr rfl (Zd rfl (Y6 _))<|gr rfl (Zi Tryz.underlying74 rfl rfl (by exact Zp 4 rfl rfl)) ?_
    refine gm rfl rfl<|gr rfl (by exact YT 6 rfl Tryz.underlying74 Xe rfl rfl (by omega) (by omega)) ?_
    refine gr rfl (Zr Tryz.underlying176 rfl Xe rfl (Zcb 6 rfl (Yf keC 5 (fun _=>rfl) hx)) rfl) ?_
    refine Zt (ZQ (sz:=5) rfl rfl (fun _=>Jc _ _ _ _ _ _ _ _ _) rfl rfl (fun b57=>?_))
    refine Zt (Yb 2 0 Tryz.underlying74 Xe rfl (by decide) rfl rfl rfl rfl rfl (by simp [Value.oneCell']) (by omega) (by omega) (fun _=>(by rfl)) (fun r58 c58=>?_))
    refine gas rfl rfl<|ZM<|ZI<|Ze<|Za<|gm rfl rfl<|gr rfl (by exact ZL (b:=1) rfl rfl (by omega)) ?_
    refine gas rfl rfl<|ZM<|Ze ?_
    rw [show (out++[e]).length+1=((out++[e])++[e1]).length by simp,show (out++[e]).flatMap keC++[.int .i64 e1.x.lv,.int .i64 e1.x.dv,.int .i64 e1.x.nm,.slice e1.a1 e1.r.1.length e1.c1,.slice e1.a2 e1.r.2.length e1.c2]=((out++[e])++[e1]).flatMap keC by simp]
    exact ZR ((k+1,r58,c58,(out++[e])++[e1],true)) ⟨⟨by simp only; omega,by rw [Zaj e hx,← hf,kstep_ff hls hq]⟩,by simp only; omega⟩ ⟨rfl,rfl,rfl,rfl,rfl,rfl,trivial⟩ ⟨[2,3,4,5,6,7],by decide,rfl⟩
   have hq:e1.x=e.x:=(Zc9 _ _).1 (by simpa using h48)
   refine ZP (.inr ⟨[0,1,2,3,4,5,6],by decide,rfl⟩) ?_
   refine Ze<|Zl rfl<|Zv<|ZI<|Ze<|Za<|gm rfl rfl<|gr rfl (by exact ZL (b:=1) rfl rfl (by omega)) ?_
   refine gas rfl rfl<|ZM<|Ze ?_
   exact ZR ((k+1,r38,c38,(out++[e]),true)) ⟨⟨by simp only; omega,by rw [Zaj e hx,← hf,kstep_fe hls hq]⟩,by simp only; omega⟩ ⟨rfl,rfl,rfl,rfl,rfl,rfl,trivial⟩ ⟨[1,2,3,4,5,6],by decide,rfl⟩
  refine gA<|Zk rfl<|Zv<|Ze<|Zb<|ZB<|Zb<|Zb<|ZO [0,1,2,3,4,5] true 14 rfl<|Zc 0 rfl rfl ⟨[0,1,2,3,4,5],by decide,rfl⟩ (Zf (Zo rfl)) ?_
  refine Zc 1 rfl rfl ⟨[0,1,2,3,4,5],by decide,rfl⟩ (Zf (rd_not rfl)) ?_
  refine Zc 2 rfl rfl ⟨[0,1,2,3,4,5],by decide,rfl⟩ (Zf (Zo rfl)) ?_
  refine ZF 3 rfl rfl rfl rfl rfl ⟨[0,1,2,3,4,5],by decide,rfl⟩ ?_
  refine ZF 4 rfl rfl rfl rfl rfl ⟨[0,1,2,3,4,5],by decide,rfl⟩ ?_
  refine ZF 5 rfl rfl rfl rfl rfl ⟨[0,1,2,3,4,5],by decide,rfl⟩ ?_
  refine ZF 6 rfl rfl rfl rfl rfl ⟨[0,1,2,3,4,5],by decide,rfl⟩ ?_
  refine ZF 7 rfl rfl rfl rfl rfl ⟨[0,1,2,3,4,5],by decide,rfl⟩ ?_
  refine ZF 8 rfl rfl rfl rfl rfl ⟨[0,1,2,3,4,5],by decide,rfl⟩ ?_
  refine ZF 9 rfl rfl rfl rfl rfl ⟨[0,1,2,3,4,5],by decide,rfl⟩ ?_
  refine ZF 10 rfl rfl rfl rfl rfl ⟨[0,1,2,3,4,5],by decide,rfl⟩ ?_
  refine ZF 11 rfl rfl rfl rfl rfl ⟨[0,1,2,3,4,5],by decide,rfl⟩ ?_
  refine ZF 12 rfl rfl rfl rfl rfl ⟨[0,1,2,3,4,5],by decide,rfl⟩ ?_
  refine ZF 13 rfl rfl rfl rfl rfl ⟨[0,1,2,3,4,5],by decide,rfl⟩ ?_
  refine Zc 14 rfl rfl ⟨[0,1,2,3,4,5],by decide,rfl⟩ (Zf (Zn rfl rfl)) ?_
  refine ZP (.inr ⟨[0,1,2,3,4,5],by decide,rfl⟩) ?_
  refine Ze<|Zl rfl<|Zv<|Ze<|Zb<|ZO [0,1,2,3,4,5] true 9 rfl<|Zc 0 rfl rfl ⟨[0,1,2,3,4,5],by decide,rfl⟩ (Zf (Zo rfl)) ?_
  refine Zc 1 rfl rfl ⟨[0,1,2,3,4,5],by decide,rfl⟩ (Zf (ZN rfl)) ?_
  refine Zc 2 rfl rfl ⟨[0,1,2,3,4,5],by decide,rfl⟩ (Zf (Zd rfl (Y6 _))) ?_
  refine Zc 3 rfl rfl ⟨[0,1,2,3,4,5],by decide,rfl⟩ (Zf (Zi Tryz.underlying74 rfl rfl (by exact Zp 3 rfl rfl))) ?_
  refine Zc 4 rfl rfl ⟨[0,1,2,3,4,5],by decide,rfl⟩ (Zf (Zo rfl)) ?_
  refine Zc 5 rfl rfl ⟨[0,1,2,3,4,5],by decide,rfl⟩ (Zf (by exact YT 5 rfl Tryz.underlying74 Xe rfl rfl (by omega) (by omega))) ?_
  refine Zc 6 rfl rfl ⟨[0,1,2,3,4,5],by decide,rfl⟩ (Zf (Zd rfl (Vl _))) ?_
  refine Zc 7 rfl rfl ⟨[0,1,2,3,4,5],by decide,rfl⟩ (Zf (Zr Tryz.underlying23 rfl Yg rfl (V8 5 rfl (YD keC 5 (fun _=>rfl) hx (j:=0) (n:=3) (by decide))) rfl)) ?_
  refine Zc 8 rfl rfl ⟨[0,1,2,3,4,5],by decide,rfl⟩ (Zf (Zr Tryz.underlying23 rfl Yg rfl (by exact ZH 2 (off:=0) (k:=3) rfl rfl) rfl)) ?_
  refine Zc 9 rfl rfl ⟨[0,1,2,3,4,5],by decide,rfl⟩ (Zf (Zbi (a:=e1.x.lv) (b:=e1.x.dv) (m:=e1.x.nm) (c:=e.x.lv) (d:=e.x.dv) (o:=e.x.nm) Zc8 (by kernel_rfl) rfl rfl)) ?_
  refine Z0 (fun h48=>?_) (fun h48=>?_)
  ·have hq:¬ e1.x=e.x:=fun h=>by rw [h] at h48; simp at h48
   refine ZP (.inr ⟨[0,1,2,3,4,5],by decide,rfl⟩) ?_
   refine Ze<|Zk rfl<|Za<|gm rfl rfl<|gm rfl rfl<|gnc rfl rfl<|gr rfl (Zd rfl (Y6 _))<|gr rfl (Zi Tryz.underlying74 rfl rfl (by exact Zp 3 rfl rfl)) ?_
   refine gm rfl rfl<|gr rfl (by exact YT 5 rfl Tryz.underlying74 Xe rfl rfl (by omega) (by omega)) ?_
   refine gr rfl (Zr Tryz.underlying176 rfl Xe rfl (Zcb 5 rfl (Yf keC 5 (fun _=>rfl) hx)) rfl) ?_
   refine Zt (ZQ (sz:=5) rfl rfl (fun _=>Jc _ _ _ _ _ _ _ _ _) rfl rfl (fun b57=>?_))
   refine Zt (Yb 1 0 Tryz.underlying74 Xe rfl (by decide) rfl rfl rfl rfl rfl (by simp [Value.oneCell']) (by omega) (by omega) (fun _=>(by rfl)) (fun r58 c58=>?_))
   refine gas rfl rfl<|ZM<|ZI<|Ze<|Za<|gm rfl rfl<|gr rfl (by exact ZL (b:=1) rfl rfl (by omega)) ?_
   refine gas rfl rfl<|ZM<|Ze ?_
   rw [show out.length+1=(out++[e1]).length by simp,show out.flatMap keC++[.int .i64 e1.x.lv,.int .i64 e1.x.dv,.int .i64 e1.x.nm,.slice e1.a1 e1.r.1.length e1.c1,.slice e1.a2 e1.r.2.length e1.c2]=(out++[e1]).flatMap keC by simp]
   exact ZR ((k+1,r58,c58,out++[e1],true)) ⟨⟨by simp only; omega,by rw [Zaj e hx,← hf,kstep_tf hq]⟩,by simp only; omega⟩ ⟨rfl,rfl,rfl,rfl,rfl,rfl,trivial⟩ ⟨[1,2,3,4,5,6],by decide,rfl⟩
  have hq:e1.x=e.x:=(Zc9 _ _).1 (by simpa using h48)
  refine ZP (.inr ⟨[0,1,2,3,4,5],by decide,rfl⟩) ?_
  refine Ze<|Zl rfl<|Zv<|ZI<|Ze<|Za<|gm rfl rfl<|gr rfl (by exact ZL (b:=1) rfl rfl (by omega)) ?_
  refine gas rfl rfl<|ZM<|Ze ?_
  exact ZR ((k+1,ro,co,out,true)) ⟨⟨by simp only; omega,by rw [Zaj e hx,← hf,kstep_te hq]⟩,by simp only; omega⟩ ⟨rfl,rfl,rfl,rfl,rfl,rfl,trivial⟩ ⟨[0,1,2,3,4,5],by decide,rfl⟩
 refine gA<|Zl rfl<|Z1<|Zs<|Zs<|ZE<|Ze<|Zb<|Zb ?_
 rw [List.take_of_length_le (by omega)] at hf
 refine Za<|gm rfl rfl<|Z0 (fun h59=>?_) (fun h59=>?_)
 ·subst h59
  obtain rfl:out=W9 t.L e:=by unfold W9; rw [← hf]; rfl
  refine gr rfl (rd_not rfl)<|gA<|Zl rfl<|Zv<|Ze<|Za<|gm rfl rfl<|gm rfl rfl<|gnc rfl rfl<|gr rfl (Zd rfl (Y6 _))<|Zt (Yc 3 ty_74 rfl rfl rfl rfl rfl (by rfl) (by rfl) ?_)
  refine ZM<|Zdm (.inr rfl) Tryz.results104 ⟨[3,4,0],by decide,rfl⟩ ?_
  exact ⟨rfl,ro,co,rfl⟩
 subst h59
 have hk9:out++[e]=W9 t.L e:=by unfold W9; rw [← hf]; rfl
 have hlen:out.length≤t.L.length+1:=by have h:=Zob t.L e; rw [← hf] at h; exact h
 refine gr rfl (rd_not rfl)<|gA<|Zk rfl<|Za<|gm rfl rfl<|gr rfl (Zr Tryz.underlying23 rfl Yg rfl (by exact ZH 2 (off:=0) (k:=3) rfl rfl) rfl) ?_
 refine gr rfl (Zr Tryz.underlying26 rfl Z5 rfl (by exact ZH 1 (off:=0) (k:=2) rfl rfl) rfl) ?_
 refine gr rfl (ZT rfl (fun _=>Zhk _ _ _ _ _ _ _ _ _)) ?_
 refine Zt (ZQ (sz:=5) rfl rfl (fun _=>Jc _ _ _ _ _ _ _ _ _) rfl rfl (fun b65=>?_))
 refine Zt (Yb 1 0 Tryz.underlying74 Xe rfl (by decide) rfl rfl rfl rfl rfl (by simp [Value.oneCell']) (by omega) (by omega) (fun _=>(by rfl)) (fun r66 c66=>?_))
 refine gas rfl rfl<|ZM<|Ze ?_
 rw [show out.length+1=(out++[e]).length by simp,show out.flatMap keC++[.int .i64 e.x.lv,.int .i64 e.x.dv,.int .i64 e.x.nm,.slice e.a1 e.r.1.length e.c1,.slice e.a2 e.r.2.length e.c2]=(out++[e]).flatMap keC by simp]
 rw [hk9]
 refine Za<|gm rfl rfl<|gm rfl rfl<|gnc rfl rfl<|gr rfl (Zd rfl (Y6 _))<|Zt (Yc 4 ty_74 rfl rfl rfl rfl rfl (by rfl) (by rfl) ?_)
 refine ZM<|Zdm (.inr rfl) Tryz.results104 ⟨[4,5,1],by decide,rfl⟩ ?_
 exact ⟨rfl,r66,c66,rfl⟩
theorem Zim (s:Org) (room:Nat) (t:RH) (S:List Nat) (w0:World) (hown:Own w0 S w0 (t.hd s room)) (hl:t.L.length≤1000) (x:Pis):Sp Tryz.prog 102 [.pointer (some ⟨t.br,0,none⟩),Pis.val x] w0 S (fun v L=>v=.tuple #[]∧∃ (rl:Option Nat) (cl:Nat),L=({ t with rl:=rl,cl:=cl,L:=XH t.L x }:RH).hd s room):=by
 refine ZC Tryz.func102 rfl Tryz.ntmps102 rfl hown ?_
 simp only [ZV]
 refine Zb<|Za<|Zt (Z6 rfl rfl rfl (fun b3=>?_))
 refine gA<|Zb<|Za<|gas rfl rfl<|gA<|Zb<|Zb<|Za<|gas rfl rfl<|gA<|ZB<|YH 176 5<|ZZ (ι:=Nat × Option Nat × Nat × List KE) [(0,_),(3,_)] [_,_,_,_] (fun q=>q.1≤t.L.length∧q.2.2.2=XH (t.L.take q.1) x) (fun q Fr0=>((4,.slice (rowA q.2.1) q.2.2.2.length q.2.2.1)::(5,natV q.1)::Fr0)) (fun q Fr0=>(.row 176 5 q.2.1 q.2.2.2.length q.2.2.1 (q.2.2.2.flatMap keC)::Fr0)) (fun q=>t.L.length - q.1) (0,none,0,[]) (⟨Nat.zero_le _,rfl⟩) ⟨rfl,rfl,rfl,rfl,trivial⟩ ⟨[0,1,2,3,4],by decide,rfl⟩ ?_
 rintro ⟨k,ro,co,out⟩ ⟨hk,hf⟩
 simp only at hk hf ⊢
 refine Zb<|Zb<|Za<|gm rfl rfl<|gm rfl rfl<|gnc rfl rfl<|gr rfl (Zd rfl (Y6 _))<|gr rfl (Zi Tryz.underlying74 rfl rfl (by exact Zp 2 rfl rfl)) ?_
 refine gr rfl (ZA Tryz.underlying74 rfl)<|gr rfl (ZX rfl rfl) (Zw (fun h12=>?_) (fun h12=>?_))
 ·obtain ⟨e1,hx⟩:=get_some (show k<t.L.length by omega)
  have hlen:out.length≤k:=by rw [hf]; refine Nat.le_trans (Zn5 _ _) ?_; simp; omega
  refine gA<|Zk rfl<|Zv<|Ze<|Zb<|ZB<|Zb<|ZO [0,1,2,3,4] true 9 rfl<|Zc 0 rfl rfl ⟨[0,1,2,3,4],by decide,rfl⟩ (Zf (Zo rfl)) ?_
  refine Zc 1 rfl rfl ⟨[0,1,2,3,4],by decide,rfl⟩ (Zf (ZN rfl)) ?_
  refine Zc 2 rfl rfl ⟨[0,1,2,3,4],by decide,rfl⟩ (Zf (Zd rfl (Y6 _))) ?_
  refine Zc 3 rfl rfl ⟨[0,1,2,3,4],by decide,rfl⟩ (Zf (Zi Tryz.underlying74 rfl rfl (by exact Zp 2 rfl rfl))) ?_
  refine Zc 4 rfl rfl ⟨[0,1,2,3,4],by decide,rfl⟩ (Zf (Zo rfl)) ?_
  refine Zc 5 rfl rfl ⟨[0,1,2,3,4],by decide,rfl⟩ (Zf (by exact YT 4 rfl Tryz.underlying74 Xe rfl rfl (by omega) (by omega))) ?_
  refine Zc 6 rfl rfl ⟨[0,1,2,3,4],by decide,rfl⟩ (Zf (Zd rfl (Vl _))) ?_
  refine Zc 7 rfl rfl ⟨[0,1,2,3,4],by decide,rfl⟩ (Zf (Zr Tryz.underlying23 rfl Yg rfl (V8 4 rfl (YD keC 5 (fun _=>rfl) hx (j:=0) (n:=3) (by decide))) rfl)) ?_
  refine Zc 8 rfl rfl ⟨[0,1,2,3,4],by decide,rfl⟩ (Zf (Zr Tryz.underlying23 rfl Yg rfl (by exact ZH 1 (off:=0) (k:=3) rfl rfl) rfl)) ?_
  refine Zc 9 rfl rfl ⟨[0,1,2,3,4],by decide,rfl⟩ (Zf (Zbi (a:=e1.x.lv) (b:=e1.x.dv) (m:=e1.x.nm) (c:=x.lv) (d:=x.dv) (o:=x.nm) Zc8 (by kernel_rfl) rfl rfl)) ?_
  refine Z0 (fun h24=>?_) (fun h24=>?_)
  ·have hq:¬ e1.x=x:=fun h=>by rw [h] at h24; simp at h24
   refine ZP (.inr ⟨[0,1,2,3,4],by decide,rfl⟩) ?_
   refine Ze<|Zk rfl<|Za<|gm rfl rfl<|gm rfl rfl<|gnc rfl rfl<|gr rfl (Zd rfl (Y6 _))<|gr rfl (Zi Tryz.underlying74 rfl rfl (by exact Zp 2 rfl rfl)) ?_
   refine gm rfl rfl<|gr rfl (by exact YT 4 rfl Tryz.underlying74 Xe rfl rfl (by omega) (by omega)) ?_
   refine gr rfl (Zr Tryz.underlying176 rfl Xe rfl (Zcb 4 rfl (Yf keC 5 (fun _=>rfl) hx)) rfl) ?_
   refine Zt (ZQ (sz:=5) rfl rfl (fun _=>Jc _ _ _ _ _ _ _ _ _) rfl rfl (fun b33=>?_))
   refine Zt (Yb 1 0 Tryz.underlying74 Xe rfl (by decide) rfl rfl rfl rfl rfl (by simp [Value.oneCell']) (by omega) (by omega) (fun _=>(by rfl)) (fun r34 c34=>?_))
   refine gas rfl rfl<|ZM<|ZI<|Ze<|Za<|gm rfl rfl<|gr rfl (by exact ZL (b:=1) rfl rfl (by omega)) ?_
   refine gas rfl rfl<|ZM<|Ze ?_
   rw [show out.length+1=(out++[e1]).length by simp,show out.flatMap keC++[.int .i64 e1.x.lv,.int .i64 e1.x.dv,.int .i64 e1.x.nm,.slice e1.a1 e1.r.1.length e1.c1,.slice e1.a2 e1.r.2.length e1.c2]=(out++[e1]).flatMap keC by simp]
   exact ZR ((k+1,r34,c34,out++[e1])) ⟨⟨by simp only; omega,by rw [Zik x hx,if_neg hq,hf]⟩,by simp only; omega⟩ ⟨rfl,rfl,rfl,rfl,trivial⟩ ⟨[1,2,3,4,5],by decide,rfl⟩
  have hq:e1.x=x:=(Zc9 _ _).1 (by simpa using h24)
  refine ZP (.inr ⟨[0,1,2,3,4],by decide,rfl⟩) ?_
  refine Ze<|Zl rfl<|Zv<|ZI<|Ze<|Za<|gm rfl rfl<|gr rfl (by exact ZL (b:=1) rfl rfl (by omega)) ?_
  refine gas rfl rfl<|ZM<|Ze ?_
  exact ZR ((k+1,ro,co,out)) ⟨⟨by simp only; omega,by rw [Zik x hx,if_pos hq,hf]⟩,by simp only; omega⟩ ⟨rfl,rfl,rfl,rfl,trivial⟩ ⟨[0,1,2,3,4],by decide,rfl⟩
 refine gA<|Zl rfl<|Z1<|Zs<|Zs<|ZE<|Ze ?_
 rw [List.take_of_length_le (by omega)] at hf
 subst hf
 refine Za<|gm rfl rfl<|gm rfl rfl<|gnc rfl rfl<|gr rfl (Zd rfl (Y6 _))<|Zt (Yc 2 ty_74 rfl rfl rfl rfl rfl (by rfl) (by rfl) ?_)
 refine ZM<|Zdm (.inr rfl) Tryz.results102 ⟨[2,3,0],by decide,rfl⟩ ?_
 exact ⟨rfl,ro,co,rfl⟩
namespace Ip
def RefT (s:Org) (room:Nat) (t:RH) (st2:RS) (L:List HL):Prop:=∃ (t2:RH) (X:List HL),L=t2.hd s room++X∧t2.br=t.br∧t2.T=X++t.T∧t2.Ok s room∧t2.st=st2
section
variable {s:Org} {room:Nat} {t:RH}
theorem RH.Ok.lenU (h:t.Ok s room):t.U.length≤1000:=by have:=h.p.full; have:=h.p.hroom; omega
theorem RH.Ok.lenL (h:t.Ok s room):t.L.length≤1000:=Nat.le_trans h.len (by decide)
theorem RefT.same (h:t.Ok s room):RefT s room t t.st (t.hd s room):=⟨t,[],rfl,rfl,rfl,h,rfl⟩
theorem Zb8 (h:t.Ok s room) {e:KE} (hx:pnE s.ds.length e.x=0) (hr:RgOk s.ss.length s.cs.length e.r) (hf:¬ Vt room t.U e.x) {ru rl:Option Nat} {cu cl:Nat} {X:List HL} (hk:KeM (X++t.T) e) :
    RH.Ok s room { t with ru:=ru,cu:=cu,U:=Xc t.U e.x,rl:=rl,cl:=cl,L:=W9 t.L e,T:=X++t.T }:=by
  refine ⟨?_,fun p hp=>?_⟩
  · show RfP _ _ _ _ (Xc t.U e.x) (prs (W9 t.L e))
    rw [Zij]
    exact (h.p.used hf).keep hx hr
  · rcases keepK_mem hp with rfl | hp
    · exact hk
    · exact (h.k p hp).mono fun z hz=>List.mem_append_right X hz
theorem Zq5 (h:t.Ok s room) {x:Pis} {r:Rg} (hx:pnE s.ds.length x=0) (hr:RgOk s.ss.length s.cs.length r) (hf:¬ Vt room t.U x) (ru rl:Option Nat) (cu cl:Nat) (r1 r2:Option Nat) (d1 d2:Nat) :
    RefT s room t (Xc t.U x,VS t.st.2 x (Yz s x r)) (RH.hd s room { t with ru:=ru,cu:=cu,U:=Xc t.U x,rl:=rl,cl:=cl,L:=W9 t.L ⟨x,rowA r1,d1,rowA r2,d2,Yz s x r⟩ }++[.row 3 1 r1 (Yz s x r).1.length d1 ((Yz s x r).1.map natV),.row 3 1 r2 (Yz s x r).2.length d2 ((Yz s x r).2.map natV)]):=by
  refine ⟨{ t with ru:=ru,cu:=cu,U:=Xc t.U x,rl:=rl,cl:=cl,L:=W9 t.L ⟨x,rowA r1,d1,rowA r2,d2,Yz s x r⟩,T:=[.row 3 1 r1 (Yz s x r).1.length d1 ((Yz s x r).1.map natV),.row 3 1 r2 (Yz s x r).2.length d2 ((Yz s x r).2.map natV)]++t.T },_,rfl,rfl,rfl,Zb8 h (e:=⟨x,rowA r1,d1,rowA r2,d2,Yz s x r⟩) hx (Za7 x hr) hf ⟨⟨r1,d1,rfl,by simp⟩,⟨r2,d2,rfl,by simp⟩⟩,?_⟩
  show (Xc t.U x,prs (W9 t.L _))=_
  rw [Zij]
theorem Zio (h:t.Ok s room) (x:Pis) (rl:Option Nat) (cl:Nat):RH.Ok s room { t with rl:=rl,cl:=cl,L:=XH t.L x }:=by
 refine ⟨?_,fun p hp=>h.k p (Zn6 hp)⟩
 show RfP _ _ _ _ t.U (prs (XH t.L x))
 rw [Zda]
 exact h.p.forget x
theorem Zsh (h:t.Ok s room) (x:Pis) (rl:Option Nat) (cl:Nat):RefT s room t (t.U,forgetR t.st.2 x) (RH.hd s room { t with rl:=rl,cl:=cl,L:=XH t.L x }):=by
 refine ⟨{ t with rl:=rl,cl:=cl,L:=XH t.L x },[],rfl,rfl,rfl,Zio h x rl cl,?_⟩
 show (t.U,prs (XH t.L x))=_
 rw [Zda]
theorem PlaceIs.none {x:Pis} {z:Int} (h:PlaceIs t x z) (hz:z<0):Yx t.st.2 x=none:=by
 rcases h with ⟨_,h⟩ | ⟨i,e,rfl,_⟩
 ·exact h
 ·omega
theorem PlaceIs.some {x:Pis} {z:Int} (h:PlaceIs t x z) (hz:¬ z<0):∃ (i:Nat) (e:KE),z=(i:Int)∧t.L[i]? = some e∧e.x=x∧Yx t.st.2 x=some e.r:=by
 rcases h with ⟨rfl,_⟩ | h
 ·omega
 ·exact h
end
end Ip
open Ip
theorem Zq6 (s:Org) (hle:OrgLe s) (hck:(Yo s).2=0) (room:Nat) (t:RH) (ht:t.Ok s room) (S:List Nat) (w0:World) (hown:Own w0 S w0 (t.hd s room)) (hS:OrgIn s w0 S) (x:Pis) (ss cs:List Int) (a1 a2:Option Addr) (c1 c2:Nat) (hl1:ss.length≤140737488355328) (hl2:cs.length≤140737488355328) (h1:OldSl w0 S a1 ss.length 1 (ss.map Xy)) (h2:OldSl w0 S a2 cs.length 1 (cs.map Xy)):Sp Tryz.prog 68 [.pointer (some ⟨t.br,0,none⟩),Pis.val x,.agg #[.slice a1 ss.length c1,.slice a2 cs.length c2]] w0 S (fun v L=>v=.int .i64 (Wx s room t.st x ss cs).2∧RefT s room t (Wx s room t.st x ss cs).1 L):=by
 have hnd:=ht.p.hnd
 have hns:=ht.p.hns
 have hnc:=ht.p.hnc
 have hll:=ht.lenL
 have hul:=ht.lenU
 refine ZC Tryz.func68 rfl Tryz.ntmps68 rfl hown ?_
 simp only [ZV]
 refine Zb<|Za<|Zt (Z6 rfl rfl rfl (fun b4=>?_))
 refine Zt (Z6 rfl rfl rfl (fun b5=>?_))
 refine gas rfl rfl<|gA<|Zb<|ZO [0,1,2,3,4] true 6 rfl<|Zc 0 rfl rfl ⟨[0,1,2,3,4],by decide,rfl⟩ (Zf (Zo rfl)) ?_
 refine Zc 1 rfl rfl ⟨[0,1,2,3,4],by decide,rfl⟩ (Zf (ZN rfl)) ?_
 refine Zc 2 rfl rfl ⟨[0,1,2,3,4],by decide,rfl⟩ (Zf (Zd rfl (VG _))) ?_
 refine Zc 3 rfl rfl ⟨[0,1,2,3,4],by decide,rfl⟩ (Zf (Zr Tryz.underlying45 rfl Xu rfl (by exact ZH 2 (off:=0) (k:=4) rfl rfl) rfl)) ?_
 refine Zc 4 rfl rfl ⟨[0,1,2,3,4],by decide,rfl⟩ (Zf (Zr Tryz.underlying23 rfl Yg rfl (by exact ZH 1 (off:=0) (k:=3) rfl rfl) rfl)) ?_
 refine Zc 5 rfl rfl ⟨[0,1,2,3,4],by decide,rfl⟩ (YE (vf:=[]) (vc:=[]) rfl rfl Tryz.call99 (fun w1 ho=>Zdb s hnd x w1) (by rintro _ _ ⟨h,_⟩; exact h)) ?_
 refine Zc 6 rfl rfl ⟨[0,1,2,3,4],by decide,rfl⟩ (Zf (ZY rfl)) ?_
 refine ZP (.inr ⟨[0,1,2,3,4],by decide,rfl⟩) ?_
 refine Ze<|Zb<|Zb<|Za<|gm rfl rfl<|gr rfl (Z8 rfl rfl) (Zw (fun h15=>?_) (fun h15=>?_))
 ·refine gA<|Zk rfl<|ZO [0,1,2,3,4] true 6 rfl<|Zc 0 rfl rfl ⟨[0,1,2,3,4],by decide,rfl⟩ (Zf (Zo rfl)) ?_
  refine Zc 1 rfl rfl ⟨[0,1,2,3,4],by decide,rfl⟩ (Zf (ZN rfl)) ?_
  refine Zc 2 rfl rfl ⟨[0,1,2,3,4],by decide,rfl⟩ (Zf (Zd rfl (VG _))) ?_
  refine Zc 3 rfl rfl ⟨[0,1,2,3,4],by decide,rfl⟩ (Zf (Zr Tryz.underlying45 rfl Xu rfl (by exact ZH 2 (off:=0) (k:=4) rfl rfl) rfl)) ?_
  refine Zc 4 rfl rfl ⟨[0,1,2,3,4],by decide,rfl⟩ (Zf (Zr Tryz.underlying26 rfl Z5 rfl (by exact ZH 0 (off:=0) (k:=2) rfl rfl) rfl)) ?_
  refine Zc 5 rfl rfl ⟨[0,1,2,3,4],by decide,rfl⟩ (YE (vf:=[]) (vc:=[]) rfl rfl Tryz.call31 (fun w1 ho=>Za8 s hle hnd hns hnc w1 (hS.at ho) hck ss cs _ _ _ _ hl1 hl2 (h1.at ho) (h2.at ho)) (by rintro _ _ ⟨h,_⟩; exact h)) ?_
  refine Zc 6 rfl rfl ⟨[0,1,2,3,4],by decide,rfl⟩ (Zf (ZY rfl)) ?_
  refine ZP (.inr ⟨[0,1,2,3,4],by decide,rfl⟩) ?_
  refine Ze<|Zb<|Zb<|Za<|gm rfl rfl<|gr rfl (Z8 rfl rfl) (Zw (fun h23=>?_) (fun h23=>?_))
  ·obtain ⟨r,rfl,rfl,hr⟩:=Ze7 h23
   rw [YA] at h1 h2
   rw [Wl] at h1 h2
   simp only [YA]
   refine gA<|Zk rfl<|Za<|gm rfl rfl<|gr rfl (Zr Tryz.underlying23 rfl Yg rfl (by exact ZH 1 (off:=0) (k:=3) rfl rfl) rfl) ?_
   refine Zt (Yi [2,3,4] [0,1] rfl (vf:=[]) (vc:=[]) rfl rfl Tryz.call103 (by decide) rfl (fun w how hc=>Zq4 s room t _ w hc hul ht.p.hroom x) ?_)
   rintro _ _ (⟨hfl,rfl,rfl⟩ | ⟨hfl,rfl,ru,cu,rfl⟩)
   ·refine gas rfl rfl<|gA<|Zb<|Zb<|Za<|gm rfl rfl<|gr rfl (Z8 rfl rfl) (Zw (fun h28=>?_) (fun h28=>?_))
    ·exact absurd h28 (by decide)
    refine gA<|Zl rfl<|Zv<|Ze<|Zb<|Za<|gm rfl rfl<|gas rfl rfl<|gA<|Zu<|ZW (.inl rfl) Tryz.results68 rfl ⟨[0,1,2],by decide,rfl⟩ ?_
    unfold Wx
    rw [if_neg (by omega),if_neg (by omega),if_pos hfl]
    exact ⟨rfl,RefT.same ht⟩
   refine gas rfl rfl<|gA<|Zb<|Zb<|Za<|gm rfl rfl<|gr rfl (Z8 rfl rfl) (Zw (fun h28=>?_) (fun h28=>?_))
   ·refine gA<|Zk rfl<|ZO [0,1,2,3,4] false 8 rfl<|Zc 6 rfl rfl ⟨[0,1,2,3,4],by decide,rfl⟩ (Zf (Zr Tryz.underlying23 rfl Yg rfl (by exact ZH 4 (off:=0) (k:=3) rfl rfl) rfl)) ?_
    refine Zc 7 rfl rfl ⟨[0,1,2,3,4],by decide,rfl⟩ (Zf (Zr Tryz.underlying26 rfl Z5 rfl (by exact ZH 3 (off:=0) (k:=2) rfl rfl) rfl)) ?_
    refine WC 0 rfl rfl (fun _=>Zo rfl) ?_
    refine WC 2 rfl rfl (fun _=>Zo rfl) ?_
    refine WC 3 rfl rfl (fun _=>ZN rfl) ?_
    refine WC 4 rfl rfl (fun _=>Zd rfl (VG _)) ?_
    refine Zc 5 rfl rfl ⟨[0,1,2,3,4],by decide,rfl⟩ (Zf (Zr Tryz.underlying45 rfl Xu rfl (by exact ZH 0 (off:=0) (k:=4) rfl rfl) rfl)) ?_
    refine Zap 1 8 (Gv.bm 10 255) (Gv.bm 10 509) rfl rfl rfl rfl (by kernel_rfl) (by kernel_rfl) (by kernel_rfl) (.inr ⟨[0,1,2,3,4],by decide,rfl⟩) ?_ ?_
    ·refine (Zm rfl (Zr Tryz.underlying23 rfl Yg rfl (by exact ZH 4 (off:=0) (k:=3) rfl rfl) rfl) ?_)
     refine ZK 8 rfl (.inr ⟨[0,1,2,3,4],by decide,rfl⟩) (ZJ rfl (vf:=[]) (vc:=[]) rfl rfl Tryz.call105 (fun w1 ho=>Zil s hle hnd hns hnc w1 (hS.at ho) x r _ _ _ _ hr (h1.at ho) (h2.at ho)) ?_)
     rintro _ _ ⟨r1,d1,r2,d2,rfl,rfl⟩
     refine ZK 9 rfl (.inl (by kernel_rfl)) (Yi [2,3,4] [0,1,5,6] rfl (vf:=[]) (vc:=[]) rfl rfl Tryz.call104 (by decide) rfl (fun w how hc=>Zak s room ({ t with ru:=ru,cu:=cu,U:=Xc t.U x }:RH) _ w hc hll ⟨x,rowA r1,d1,rowA r2,d2,Yz s x r⟩) ?_)
     rintro _ _ ⟨rfl,rl,cl,rfl⟩
     refine ZP (.inl (by kernel_rfl)) ?_
     refine Ze<|Zb<|Za<|gm rfl rfl<|gas rfl rfl<|gA<|Zu<|ZW (.inl rfl) Tryz.results68 rfl ⟨[0,1,2,3,4],by decide,rfl⟩ ?_
     unfold Wx
     rw [if_neg (by omega),if_neg (by omega),if_neg hfl,VC]
     exact ⟨rfl,Zq5 ht h15 hr hfl ru rl cu cl r1 r2 d1 d2⟩
    refine (ZJ rfl (vf:=[]) (vc:=[]) rfl rfl Tryz.call105 (fun w1 ho=>Zil s hle hnd hns hnc w1 (hS.at ho) x r _ _ _ _ hr (h1.at ho) (h2.at ho)) ?_)
    rintro _ _ ⟨r1,d1,r2,d2,rfl,rfl⟩
    refine ZK 1 rfl (.inl (by kernel_rfl)) (Zm rfl (Zr Tryz.underlying23 rfl Yg rfl (by exact ZH 6 (off:=0) (k:=3) rfl rfl) rfl) ?_)
    refine ZK 9 rfl (.inl (by kernel_rfl)) (Yi [2,3,4] [0,1,5,6] rfl (vf:=[]) (vc:=[]) rfl rfl Tryz.call104 (by decide) rfl (fun w how hc=>Zak s room ({ t with ru:=ru,cu:=cu,U:=Xc t.U x }:RH) _ w hc hll ⟨x,rowA r1,d1,rowA r2,d2,Yz s x r⟩) ?_)
    rintro _ _ ⟨rfl,rl,cl,rfl⟩
    refine ZP (.inl (by kernel_rfl)) ?_
    refine Ze<|Zb<|Za<|gm rfl rfl<|gas rfl rfl<|gA<|Zu<|ZW (.inl rfl) Tryz.results68 rfl ⟨[0,1,2,3,4],by decide,rfl⟩ ?_
    unfold Wx
    rw [if_neg (by omega),if_neg (by omega),if_neg hfl,VC]
    exact ⟨rfl,Zq5 ht h15 hr hfl ru rl cu cl r1 r2 d1 d2⟩
   exact absurd rfl h28
  refine gA<|Zl rfl<|Zv<|Ze<|Zb<|Zb<|Za<|gm rfl rfl<|gr rfl (Z8 rfl rfl) (Zw (fun h28=>?_) (fun h28=>?_))
  ·exact absurd h28 h23
  refine gA<|Zl rfl<|Zv<|Ze<|Zb<|Za<|gm rfl rfl<|gas rfl rfl<|gA<|Zu<|ZW (.inl rfl) Tryz.results68 rfl ⟨[2,3,4],by decide,rfl⟩ ?_
  unfold Wx
  rw [if_neg (by omega),if_pos h23]
  exact ⟨rfl,RefT.same ht⟩
 refine gA<|Zl rfl<|Zv<|Ze<|Zb<|Zb<|Za<|gm rfl rfl<|gr rfl (Z8 rfl rfl) (Zw (fun h23=>?_) (fun h23=>?_))
 ·exact absurd h23 h15
 refine gA<|Zl rfl<|Zv<|Ze<|Zb<|Zb<|Za<|gm rfl rfl<|gr rfl (Z8 rfl rfl) (Zw (fun h28=>?_) (fun h28=>?_))
 ·exact absurd h28 h23
 refine gA<|Zl rfl<|Zv<|Ze<|Zb<|Za<|gm rfl rfl<|gas rfl rfl<|gA<|Zu<|ZW (.inl rfl) Tryz.results68 rfl ⟨[2,3,4],by decide,rfl⟩ ?_
 unfold Wx
 rw [if_pos h15]
 exact ⟨rfl,RefT.same ht⟩
theorem Zki (s:Org) (room:Nat) (t:RH) (ht:t.Ok s room) (S:List Nat) (w0:World) (hown:Own w0 S w0 (t.hd s room)) (x:Pis):Sp Tryz.prog 64 [.pointer (some ⟨t.br,0,none⟩),Pis.val x] w0 S (fun v L=>v=.int .i64 (Wi s t.st x).2∧RefT s room t (Wi s t.st x).1 L):=by
 have hnd:=ht.p.hnd
 have hns:=ht.p.hns
 have hnc:=ht.p.hnc
 have hll:=ht.lenL
 have hul:=ht.lenU
 refine ZC Tryz.func64 rfl Tryz.ntmps64 rfl hown ?_
 simp only [ZV]
 refine Zb<|Za<|Zt (Z6 rfl rfl rfl (fun b3=>?_))
 refine gas rfl rfl<|gA<|Zb<|ZO [0,1,2,3] true 6 rfl<|Zc 0 rfl rfl ⟨[0,1,2,3],by decide,rfl⟩ (Zf (Zo rfl)) ?_
 refine Zc 1 rfl rfl ⟨[0,1,2,3],by decide,rfl⟩ (Zf (ZN rfl)) ?_
 refine Zc 2 rfl rfl ⟨[0,1,2,3],by decide,rfl⟩ (Zf (Zd rfl (VG _))) ?_
 refine Zc 3 rfl rfl ⟨[0,1,2,3],by decide,rfl⟩ (Zf (Zr Tryz.underlying45 rfl Xu rfl (by exact ZH 1 (off:=0) (k:=4) rfl rfl) rfl)) ?_
 refine Zc 4 rfl rfl ⟨[0,1,2,3],by decide,rfl⟩ (Zf (Zr Tryz.underlying23 rfl Yg rfl (by exact ZH 0 (off:=0) (k:=3) rfl rfl) rfl)) ?_
 refine Zc 5 rfl rfl ⟨[0,1,2,3],by decide,rfl⟩ (YE (vf:=[]) (vc:=[]) rfl rfl Tryz.call99 (fun w1 ho=>Zdb s hnd x w1) (by rintro _ _ ⟨h,_⟩; exact h)) ?_
 refine Zc 6 rfl rfl ⟨[0,1,2,3],by decide,rfl⟩ (Zf (ZY rfl)) ?_
 refine ZP (.inr ⟨[0,1,2,3],by decide,rfl⟩) ?_
 refine Ze<|Zb<|Zb<|Za<|gm rfl rfl<|gr rfl (Z4 rfl rfl) (Zw (fun h13=>?_) (fun h13=>?_))
 ·refine gA<|Zk rfl<|Zb<|Za<|gm rfl rfl<|gas rfl rfl<|gA<|Zu<|Zh<|ZW (.inl rfl) Tryz.results64 rfl ⟨[1,2,3],by decide,rfl⟩ ?_
  unfold Wi
  rw [if_pos h13]
  exact ⟨rfl,RefT.same ht⟩
 refine gA<|Zl rfl<|Zv<|Ze<|Zb<|Zb<|Za<|gm rfl rfl<|gr rfl (Zr Tryz.underlying23 rfl Yg rfl (by exact ZH 0 (off:=0) (k:=3) rfl rfl) rfl) ?_
 refine Zt (ZJ rfl (vf:=[]) (vc:=[]) rfl rfl Tryz.call100 (fun w1 ho=>Zfk s room t w1 (ho.blkCells 1 rfl) (ho.rowSl 3 rfl) hll x) ?_)
 rintro _ _ ⟨rfl,z,rfl,hz⟩
 refine gr rfl (ZX rfl rfl) (Zw (fun h18=>?_) (fun h18=>?_))
 ·refine gA<|Zk rfl<|Zb<|Za<|gas rfl rfl<|gA<|Zu<|Zh<|ZW (.inl rfl) Tryz.results64 rfl ⟨[1,2,3],by decide,rfl⟩ ?_
  unfold Wi
  rw [if_neg h13,hz.none h18]
  exact ⟨rfl,RefT.same ht⟩
 refine gA<|Zl rfl<|Zv<|Ze<|Zb<|Za<|gm rfl rfl<|gr rfl (Zr Tryz.underlying23 rfl Yg rfl (by exact ZH 0 (off:=0) (k:=3) rfl rfl) rfl) ?_
 refine Zt (Yi [1,2,3] [0] rfl (vf:=[]) (vc:=[]) rfl rfl Tryz.call102 (by decide) rfl (fun w how hc=>Zim s room t _ w hc hll x) ?_)
 rintro _ _ ⟨rfl,rl,cl,rfl⟩
 refine gA<|Zb<|Za<|gas rfl rfl<|gA<|Zu<|ZW (.inl rfl) Tryz.results64 rfl ⟨[0,1,2],by decide,rfl⟩ ?_
 unfold Wi
 obtain ⟨i,e,_,_,_,hp⟩:=hz.some h18
 rw [if_neg h13,hp]
 exact ⟨rfl,Zsh ht x rl cl⟩
end Go.Proofs.YthcbcdjkfefnlaaGreatDoor
