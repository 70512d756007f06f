import Derived.Test.YthcbcdjkfefnlaaGreatDoorW03
import Derived.Test.YthcbcdjkfefnlaaGreatDoorW02
import Derived.Test.YthcbcdjkfefnlaaGreatDoorW01
import Derived.Test.YthcbcdjkfefnlaaGreatDoorW00
import Derived.Test.YthcbcdjkfefnlaaGreatDoorRows
import Derived.LaidMore
import Derived.MakeChecks
import Derived.Stop.Joined
import Derived.LaidHandle
/- A part of the proof: walks of the program. -/
set_option autoImplicit false
set_option linter.unusedSimpArgs false
set_option linter.unusedVariables false
set_option linter.unnecessarySimpa false
set_option maxRecDepth 100000
set_option maxHeartbeats 8000000
namespace Go.Proofs.YthcbcdjkfefnlaaGreatDoor
open Go.Gv
open Go.RowKit
open Iv
namespace Iv
section
variable {dm : List Deferred} {P : Program} {n : Nat} {e : Env} {w0 : World} {S : List Nat} {l : List HL} {dst : Option Tmp} {ty : TypeId} {pos : String} {aft : Array Edge} {gd : Option (Nat × Bool)} {x y : Operand} {t ty' : TypeId}
end
def NoP (w : World) (p : Option Addr) : Prop := p = none ∨ ∃ ad cs, p = some ad ∧ Cells w ad (.bool false :: cs)
theorem NoP.at {w0 w : World} {l : List HL} {p : Option Addr} (h : NoP w0 p) (ho : Own w0 [] w l) : NoP w p := by
  rcases h with h | ⟨ad, cs, h1, h2⟩
  · exact .inl h
  · exact .inr ⟨ad, cs, h1, h2.at ho⟩
end Iv
theorem Zix (w0 : World)  : Sp Tryz.prog 184 [.pointer none] w0 [] (RV (.int .i64 1)) := by
  refine ZB Tryz.func184 rfl Tryz.ntmps184 rfl (Own.refl _) ?_
  simp only [ZU]
  refine Zc <| Za <| gas rfl rfl <| gA <| Zc <| ZI <| Zc <| Za <| gm rfl rfl <| gr rfl (Y5 Zkg Tryz.underlying33 rfl rfl) <| gm rfl rfl <| Zu rfl rfl rfl <| Zu rfl rfl rfl <| Zu rfl rfl rfl <| Zu rfl rfl rfl <| Zu rfl rfl rfl <| gr rfl (ZE rfl rfl) <| gas rfl rfl <| gA <| Zj rfl <| Zc <| Za <| gr rfl (ZS rfl) ?_
  refine gA <| Zt <| Zy <| Zg <| ZC (.inl rfl) Tryz.results184 rfl [] (by decide) ?_
  exact ⟨rfl, rfl⟩
theorem Zga (ad : Addr) (cs : List Value) (w0 : World) (hc : Cells w0 ad (.bool false :: cs))  : Sp Tryz.prog 184 [.pointer (some ad)] w0 [] (RV (.int .i64 1)) := by
  refine ZB Tryz.func184 rfl Tryz.ntmps184 rfl (Own.refl _) ?_
  simp only [ZU]
  refine Zc <| Za <| gas rfl rfl <| gA <| Zc <| ZI <| Zc <| Za <| gm rfl rfl <| gr rfl (Y5 Zkg Tryz.underlying33 rfl rfl) <| gm rfl rfl <| Zl rfl rfl <| Zs rfl (Zi rfl) <| Zl rfl rfl <| Zs rfl (ZL rfl) <| Zl rfl rfl <| Zs rfl (Zd rfl (Zbg _)) <| Zl rfl rfl (Zs rfl (Zh Tryz.underlying4 rfl rfl (Yf (j := 0) hc (by simp) rfl)) ?_)
  refine Zl rfl rfl <| Zs rfl (rd_not rfl) <| gr rfl (Zo rfl rfl) <| gas rfl rfl <| gA <| Zj rfl <| Zc <| Za <| gas rfl rfl <| gA <| Zt <| Zy <| Zg <| ZC (.inl rfl) Tryz.results184 rfl [] (by decide) ?_
  exact ⟨rfl, rfl⟩
theorem ready_no (p : Option Addr) (w0 : World) (hp : NoP w0 p)  : Sp Tryz.prog 184 [.pointer p] w0 [] (RV (.int .i64 1)) := by
  rcases hp with rfl | ⟨ad, cs, rfl, hc⟩
  · exact Zix w0
  · exact Zga ad cs w0 hc
theorem Keys_no (p : Option Addr) (w0 : World) (hp : NoP w0 p)  : Sp Tryz.prog 181 [.pointer p] w0 [] (RV (.tuple #[.slice none 0 0, .int .i64 1])) := by
  refine ZB Tryz.func181 rfl Tryz.ntmps181 rfl (Own.refl _) ?_
  simp only [ZU]
  refine Zc <| Za <| gas rfl rfl <| gas rfl rfl <| gA <| Zc <| Zc <| Za <| gm rfl rfl <| Zn (ZD rfl (vf := []) (vc := []) rfl rfl Tryz.call184 (fun w1 ho => ready_no p w1 (hp.at ho)) ?_)
  rintro _ _ ⟨rfl, rfl⟩
  refine gas rfl rfl <| gA <| Zc <| Za <| gm rfl rfl <| gr rfl (ZP rfl rfl) (Zv (fun h8 => ?_) (fun h8 => ?_))
  · refine gA <| Zj rfl <| Zc <| Za <| gm rfl rfl <| gas rfl rfl <| gas rfl rfl <| gA <| Zt <| Zg <| YA (.inl rfl) Tryz.results181 rfl rfl [] (by decide) ?_
    exact ⟨rfl, rfl⟩
  exfalso; omega
namespace Iv
end Iv
namespace Iv
structure Sloss where
  key : Nat
  va : Option Addr
  vc : Nat
  v : List Nat
  lose : Bool
  again : Bool
  after : Nat
  pa : Option Addr
  pc : Nat
  ps : List Nat
  deriving Inhabited
def Sloss.cells (x : Sloss) : List Value := [.int .u16 (x.key : Int), .slice x.va x.v.length x.vc, .bool x.lose, .bool x.again, .int .u16 (x.after : Int), .slice x.pa x.ps.length x.pc]
structure Sloss.In (x : Sloss) (w : World) (S : List Nat) : Prop where
  key : x.key < 65536
  after : x.after < 65536
  v : ∀ z ∈ x.v, z < 256
  ps : ∀ z ∈ x.ps, z < 256
  vsl : OldSl w S x.va x.v.length 1 (x.v.map u8V)
  psl : OldSl w S x.pa x.ps.length 1 (x.ps.map u8V)
  vlen : x.v.length ≤ 140737488355328
  plen : x.ps.length ≤ 140737488355328
theorem fuse_is {f : Fl} (hd : f.down = false) {n : Int} (hn : 0 ≤ n) {ps : List Nat} (hp : ps.length ≤ 256) : YC f n ps = ({ f with left := n, picks := ps }, 0) := by
  unfold YC
  rw [if_neg (by omega), if_neg (by rw [hd]; decide)]
structure OpdOk (f : Fl) (N : Nat) (V : Ye) (f2 : Fl) (m2 : List (ME He)) (nb2 : Nat) (T2 : List HL) (num2 fb2 id2 : Nat) : Prop where
  st : StOk f2 id2 m2 nb2 T2 num2 fb2 V
  left : f2.left = -1
  len : f2.b.length = f.b.length
  er : f2.er ≤ f.er + 2
  pr : f2.pr = f.pr
  hst : f2.st ≤ f.st + 2
  num : num2 ≤ N
end Iv
end Go.Proofs.YthcbcdjkfefnlaaGreatDoor
namespace Go.Proofs.YthcbcdjkfefnlaaGreatDoor
open Go.Gv
open Go.RowKit
open Go.Sn hiding En keysP keysP_len stop_ok
open Go.Ps
open Iv Sx
theorem eg_36 : Tryz.prog.eqGuardType Tryz.prog.depth 36 = false := by kernel_rfl
namespace Ip
structure SS where
  f : Fl
  bs : Nat
  bf : Nat
  rb : Option Nat
  cb : Nat
  rp : Option Nat
  cp : Nat
  id : Nat
  bm : Nat
  num : Nat
  fb : Nat
  m : List (ME He)
  nb : Nat
  T : List HL
abbrev SS.blk (q : SS) : HL := .blk q.bs [.bool true, .pointer (some ⟨q.bf, 0, none⟩), natV q.id, .map (some q.bm), .int .u32 ((q.num : Nat) : Int), .int .i64 ((q.fb : Nat) : Int)] 138
abbrev SS.fl (q : SS) : List HL := FlH q.bf q.rb q.cb q.rp q.cp q.f
def SS.hl (q : SS) : List HL := .blk q.bs [.bool true, .pointer (some ⟨q.bf, 0, none⟩), natV q.id, .map (some q.bm), .int .u32 ((q.num : Nat) : Int), .int .i64 ((q.fb : Nat) : Int)] 138 :: .obj q.bm (Xo HV q.m q.nb) :: (FlH q.bf q.rb q.cb q.rp q.cp q.f ++ q.T)
structure SS.Ok (q : SS) (V : Ye) (n : Nat) : Prop where
  st : StOk q.f q.id q.m q.nb q.T q.num q.fb V
  pr : q.f.pr ≤ 100000 * n
  er : q.f.er ≤ n
  num : q.num ≤ n
structure SS.Stop (q : SS) : Prop where
  ok : q.f.Ok
  no : XO q.f q.id ≠ 0
def SS.err (q : SS) : Int := XO q.f q.id
theorem SS.Ok.zero {q : SS} {V : Ye} {n : Nat} (h : q.Ok V n) : q.err = 0 := h.st.ready
structure PsIn (s : Org) (bp bs : Nat) (w : World) (S : List Nat) : Prop where
  p : Cells w ⟨bp, 0, none⟩ [.bool true, .iface 33 (.pointer (some ⟨bs, 0, none⟩)), .slice s.da s.ds.length s.dc, .slice none 0 0, .slice s.sa s.ss.length s.sc, .slice s.ca s.cs.length s.cc]
  o : bp ∉ S
  t : OldSl w S s.sa s.ss.length 5 (s.ss.flatMap St.cells)
  c : OldSl w S s.ca s.cs.length 6 (s.cs.flatMap Cp.cells)
  nd : s.ds.length ≤ 6
  ns : s.ss.length ≤ 80
  nc : s.cs.length ≤ 24
theorem PsIn.at {s : Org} {bp bs : Nat} {w0 w : World} {S : List Nat} {l : List HL} (h : PsIn s bp bs w0 S) (ho : Own w0 S w l) : PsIn s bp bs w [] :=
  ⟨h.p.atS ho h.o, by simp, h.t.at ho, h.c.at ho, h.nd, h.ns, h.nc⟩
theorem PsIn.sp {s : Org} {bp bs : Nat} {w : World} {S : List Nat} (h : PsIn s bp bs w S) : Cells w ((⟨bp, 0, none⟩ : Addr).add 2) [.slice s.da s.ds.length s.dc, .slice none 0 0, .slice s.sa s.ss.length s.sc, .slice s.ca s.cs.length s.cc] := fun j v hv => by
  rw [add_add]
  exact h.p (2 + j) v (by rw [show 2 + j = j + 1 + 1 by omega]; simpa using hv)
theorem PsIn.out {s : Org} {bp bs : Nat} {w0 w : World} {S : List Nat} {A T : List HL} (h : PsIn s bp bs w0 S) (ho : Own w0 S w (A ++ T)) : PsIn s bp bs w (T.filterMap HL.block) := by
  have hT : ∀ b ∈ T.filterMap HL.block, b ∈ S ∨ w0.heap.size ≤ b := fun b hb => by
    obtain ⟨x, hx, hxb⟩ := List.mem_filterMap.1 hb
    exact ho.place x (List.mem_append_right _ hx) b hxb
  have hp := h.at ho
  refine ⟨hp.p, fun hb => ?_, ⟨hp.t.len, hp.t.isSome, hp.t.cells, fun hm hb => ?_⟩, ⟨hp.c.len, hp.c.isSome, hp.c.cells, fun hm hb => ?_⟩, h.nd, h.ns, h.nc⟩
  · rcases hT _ hb with h1 | h1
    · exact h.o h1
    · have := Zhv (h.p 0 _ rfl)
      rw [block_add] at this
      exact absurd this (Nat.not_lt.2 h1)
  · rcases hT _ hb with h1 | h1
    · exact h.t.out hm h1
    · exact absurd (h.t.lt hm (by decide)) (Nat.not_lt.2 h1)
  · rcases hT _ hb with h1 | h1
    · exact h.c.out hm h1
    · exact absurd (h.c.lt hm (by decide)) (Nat.not_lt.2 h1)
abbrev Pis.val (x : Pis) : Value := kv3 x.lv x.dv x.nm
theorem Zfp (p : Value) (w : World) : (method (Tryz.prog.types.size + Made.depth) 33 p "Keys").run Tryz.prog w = .ok (181, p) w := by kernel_rfl
theorem m_get (p : Value) (w : World) : (method (Tryz.prog.types.size + Made.depth) 33 p "Get").run Tryz.prog w = .ok (180, p) w := by kernel_rfl
theorem Zk6 (p : Value) (w : World) : (method (Tryz.prog.types.size + Made.depth) 33 p "Put").run Tryz.prog w = .ok (182, p) w := by kernel_rfl
end Ip
open Ip
theorem Zfq {nd : Nat} (hn : nd ≤ 6) (x : Pis) (hx : pnE nd x = 0) (w0 : World) : Sp Tryz.prog 54 [Pis.val x] w0 [] (RV (.int .i64 (kyP x))) := by
  obtain ⟨h1, h2, h3, h4, h5, h6⟩ := pn_ok.1 hx
  have h7 : x.nm ≤ 20 := by split at h4 <;> omega
  refine ZB Tryz.func54 rfl Tryz.ntmps54 rfl (Own.refl _) ?_
  simp only [ZU]
  refine Zc <| Za <| Zn (Z7 rfl rfl rfl (fun b1 => ?_))
  refine gas rfl rfl <| gA <| Zc <| Za <| gr rfl (Zd rfl (JZ _)) <| gr rfl (Zh Tryz.underlying3 rfl rfl (by exact Zq 0 rfl rfl)) ?_
  refine gr rfl (by exact W3 rfl rfl (by omega) (by omega)) ?_
  refine gr rfl (by exact Zhq rfl rfl (by omega) (by omega)) ?_
  refine gr rfl (Zd rfl (Zbc _)) <| gr rfl (Zh Tryz.underlying3 rfl rfl (by exact Zq 0 rfl rfl)) ?_
  refine gr rfl (by exact WL rfl rfl (by omega) (by omega)) ?_
  refine gr rfl (by exact W3 rfl rfl (by omega) (by omega)) ?_
  refine gas rfl rfl <| gA <| Zc <| Zc <| Za <| gr rfl (Zd rfl (Wf _)) <| gr rfl (Zh Tryz.underlying3 rfl rfl (by exact Zq 0 rfl rfl)) ?_
  refine gr rfl (Z5 rfl rfl) (Zv (fun h14 => ?_) (fun h14 => ?_))
  · refine gA <| Zj rfl <| Zc <| Za <| gm rfl rfl <| gr rfl (by exact WL rfl rfl (by omega) (by omega)) ?_
    refine gas rfl rfl <| gA <| Zt <| Zg <| ZC (.inl rfl) Tryz.results54 rfl [] (by decide) ?_
    refine ⟨congrArg (Value.int .i64) (Eq.symm ?_), rfl⟩
    unfold kyP
    rw [if_pos h14]
  refine gA <| Zk rfl <| Zx <| Zf <| Zc <| Za <| gm rfl rfl <| gr rfl (by exact WL rfl rfl (by omega) (by omega)) ?_
  refine gr rfl (Zd rfl (Wf _)) <| gr rfl (Zh Tryz.underlying3 rfl rfl (by exact Zq 0 rfl rfl)) ?_
  refine gr rfl (by exact Zhq rfl rfl (by omega) (by omega)) ?_
  refine gr rfl (by exact WL rfl rfl (by omega) (by omega)) ?_
  refine gas rfl rfl <| gA <| Zt <| ZC (.inl rfl) Tryz.results54 rfl [] (by decide) ?_
  refine ⟨congrArg (Value.int .i64) (Eq.symm ?_), rfl⟩
  unfold kyP
  rw [if_neg h14]
theorem Zcl (s : Org) (bp bs : Nat) (w0 : World) (hP : PsIn s bp bs w0 []) (x : Pis) : Sp Tryz.prog 44 [.pointer (some ⟨bp, 0, none⟩), Pis.val x] w0 [] (RV (.int .i64 (pnE s.ds.length x))) := by
  have hp := hP.p
  have hp2 := hP.sp
  have hnd := hP.nd
  have hns := hP.ns
  have hnc := hP.nc
  refine ZB Tryz.func44 rfl Tryz.ntmps44 rfl (Own.refl _) ?_
  simp only [ZU]
  refine Zc <| Za <| Zn (Z7 rfl rfl rfl (fun b3 => ?_))
  refine gas rfl rfl <| gA <| Zc <| Za <| gas rfl rfl <| gA <| Zc <| Zc <| Za <| gr rfl (Zd rfl (Wf _)) <| gr rfl (Zh Tryz.underlying3 rfl rfl (by exact Zq 0 rfl rfl)) ?_
  refine gr rfl (Yr rfl rfl) (Zv (fun h8 => ?_) (fun h8 => ?_))
  · refine gA <| Zj rfl <| Za <| gas rfl rfl <| gA <| Zc <| ZI <| Zc <| Za <| gr rfl (Zd rfl (JZ _)) <| gr rfl (Zh Tryz.underlying3 rfl rfl (by exact Zq 0 rfl rfl)) ?_
    refine gr rfl (Z5 rfl rfl) (Zv (fun hd1 => ?_) (fun hd1 => ?_))
    · refine gm rfl rfl <| Zu rfl rfl rfl <| Zu rfl rfl rfl <| Zu rfl rfl rfl <| gr rfl (ZE rfl rfl) <| gm rfl rfl <| Zu rfl rfl rfl <| Zu rfl rfl rfl <| Zu rfl rfl rfl <| gr rfl (ZE rfl rfl) <| gm rfl rfl <| Zu rfl rfl rfl <| Zu rfl rfl rfl <| Zu rfl rfl rfl <| Zu rfl rfl rfl <| gr rfl (ZE rfl rfl) <| gas rfl rfl <| gA <| Zj rfl <| Zc <| Za <| gas rfl rfl <| ZW <| Zf ?_
      refine Zt <| Zy <| Zg <| ZC (.inl rfl) Tryz.results44 rfl [] (by decide) ?_
      refine ⟨congrArg (Value.int .i64) (Eq.symm ?_), rfl⟩
      unfold pnE
      rw [if_pos h8]
      rw [if_pos (by omega)]
    refine gm rfl rfl <| Zl rfl rfl <| Zs rfl (Zd rfl (JZ _)) <| Zl rfl rfl (Zs rfl (Zh Tryz.underlying3 rfl rfl (by exact Zq 0 rfl rfl)) ?_)
    refine Zl rfl rfl (Zs rfl (YG rfl rfl) (Zv (fun hd2 => ?_) (fun hd2 => ?_)))
    · refine gr rfl (Zo rfl rfl) <| gm rfl rfl <| Zu rfl rfl rfl <| Zu rfl rfl rfl <| Zu rfl rfl rfl <| gr rfl (ZE rfl rfl) <| gm rfl rfl <| Zu rfl rfl rfl <| Zu rfl rfl rfl <| Zu rfl rfl rfl <| Zu rfl rfl rfl <| gr rfl (ZE rfl rfl) <| gas rfl rfl <| gA <| Zj rfl <| Zc <| Za <| gas rfl rfl <| gA <| Zt <| Zy <| Zg <| ZC (.inl rfl) Tryz.results44 rfl [] (by decide) ?_
      refine ⟨congrArg (Value.int .i64) (Eq.symm ?_), rfl⟩
      unfold pnE
      rw [if_pos h8]
      rw [if_pos (by omega)]
    refine gr rfl (Zo rfl rfl) <| gm rfl rfl <| Zl rfl rfl <| Zs rfl (Zd rfl (Zbc _)) <| Zl rfl rfl (Zs rfl (Zh Tryz.underlying3 rfl rfl (by exact Zq 0 rfl rfl)) ?_)
    refine Zl rfl rfl (Zs rfl (Z5 rfl rfl) (Zv (fun hd3 => ?_) (fun hd3 => ?_)))
    · refine gr rfl (Zo rfl rfl) <| gm rfl rfl <| Zu rfl rfl rfl <| Zu rfl rfl rfl <| Zu rfl rfl rfl <| Zu rfl rfl rfl <| gr rfl (ZE rfl rfl) <| gas rfl rfl <| gA <| Zj rfl <| Zc <| Za <| gas rfl rfl <| gA <| Zt <| Zy <| Zg <| ZC (.inl rfl) Tryz.results44 rfl [] (by decide) ?_
      refine ⟨congrArg (Value.int .i64) (Eq.symm ?_), rfl⟩
      unfold pnE
      rw [if_pos h8]
      rw [if_pos (by omega)]
    refine gr rfl (Zo rfl rfl) <| gm rfl rfl <| Zl rfl rfl <| Zs rfl (Zd rfl (Zbc _)) <| Zl rfl rfl (Zs rfl (Zh Tryz.underlying3 rfl rfl (by exact Zq 0 rfl rfl)) ?_)
    refine Zl rfl rfl <| Zs rfl (Zi rfl) <| Zl rfl rfl (Zs rfl (YG rfl rfl) (Zv (fun hd4 => ?_) (fun hd4 => ?_)))
    · refine gr rfl (Zo rfl rfl) <| gas rfl rfl <| gA <| Zj rfl <| Zc <| Za <| gas rfl rfl <| gA <| Zt <| Zy <| Zg <| ZC (.inl rfl) Tryz.results44 rfl [] (by decide) ?_
      refine ⟨congrArg (Value.int .i64) (Eq.symm ?_), rfl⟩
      unfold pnE
      rw [if_pos h8]
      rw [if_pos (by omega)]
    refine gr rfl (Zo rfl rfl) <| gas rfl rfl <| gA <| Zk rfl <| Zc <| ZV [0] true 14 rfl <| Zb 0 rfl rfl ⟨[0], by decide, rfl⟩ (Ze (Zd rfl (Wf _))) ?_
    refine Zb 1 rfl rfl ⟨[0], by decide, rfl⟩ (Ze (Zh Tryz.underlying3 rfl rfl (by exact Zq 0 rfl rfl))) ?_
    refine Zb 2 rfl rfl ⟨[0], by decide, rfl⟩ (Ze (Z5 rfl rfl)) (Zv (fun hd5 => ?_) (fun hd5 => ?_))
    · refine Zb 3 rfl rfl ⟨[0], by decide, rfl⟩ (Ze (Zi rfl)) ?_
      refine ZT 4 rfl rfl rfl rfl rfl ⟨[0], by decide, rfl⟩ ?_
      refine ZT 5 rfl rfl rfl rfl rfl ⟨[0], by decide, rfl⟩ ?_
      refine ZT 6 rfl rfl rfl rfl rfl ⟨[0], by decide, rfl⟩ ?_
      refine ZT 7 rfl rfl rfl rfl rfl ⟨[0], by decide, rfl⟩ ?_
      refine ZT 8 rfl rfl rfl rfl rfl ⟨[0], by decide, rfl⟩ ?_
      refine ZT 9 rfl rfl rfl rfl rfl ⟨[0], by decide, rfl⟩ ?_
      refine ZT 10 rfl rfl rfl rfl rfl ⟨[0], by decide, rfl⟩ ?_
      refine ZT 11 rfl rfl rfl rfl rfl ⟨[0], by decide, rfl⟩ ?_
      refine ZT 12 rfl rfl rfl rfl rfl ⟨[0], by decide, rfl⟩ ?_
      refine Zb 13 rfl rfl ⟨[0], by decide, rfl⟩ (Ze (ZE rfl rfl)) ?_
      refine Zb 14 rfl rfl ⟨[0], by decide, rfl⟩ (Ze (ZS rfl)) ?_
      refine ZR (.inr ⟨[0], by decide, rfl⟩) ?_
      refine Zf <| Zj rfl <| Zc <| Za <| gas rfl rfl <| gA <| Zt <| Zy <| Zg <| ZC (.inl rfl) Tryz.results44 rfl [] (by decide) ?_
      refine ⟨congrArg (Value.int .i64) (Eq.symm ?_), rfl⟩
      unfold pnE
      rw [if_pos h8]
      rw [if_neg (by omega), if_pos (by omega)]
    refine Zb 3 rfl rfl ⟨[0], by decide, rfl⟩ (Ze (Zi rfl)) ?_
    refine Zm 4 rfl rfl rfl rfl rfl ⟨[0], by decide, rfl⟩ (Ze (Zd rfl (Wf _))) ?_
    refine Zm 5 rfl rfl rfl rfl rfl ⟨[0], by decide, rfl⟩ (Ze (Zh Tryz.underlying3 rfl rfl (by exact Zq 0 rfl rfl))) ?_
    refine Zm 6 rfl rfl rfl rfl rfl ⟨[0], by decide, rfl⟩ (Ze (Zi rfl)) ?_
    refine Zm 7 rfl rfl rfl rfl rfl ⟨[0], by decide, rfl⟩ (Ze (ZL rfl)) ?_
    refine Zm 8 rfl rfl rfl rfl rfl ⟨[0], by decide, rfl⟩ (Ze (Zd rfl (Jd _))) ?_
    refine Zm 9 rfl rfl rfl rfl rfl ⟨[0], by decide, rfl⟩ (Ze (Zd rfl (WB _))) ?_
    refine Zm 10 rfl rfl rfl rfl rfl ⟨[0], by decide, rfl⟩ (Ze (Zh Tryz.underlying40 rfl rfl (by exact Yf (by assumption) (by simp) rfl))) ?_
    refine Zm 11 rfl rfl rfl rfl rfl ⟨[0], by decide, rfl⟩ (Ze (ZG Tryz.underlying40 rfl)) ?_
    refine Zm 12 rfl rfl rfl rfl rfl ⟨[0], by decide, rfl⟩ (Ze (Wn rfl rfl)) (Zv (fun hd6 => ?_) (fun hd6 => ?_))
    · refine Zb 13 rfl rfl ⟨[0], by decide, rfl⟩ (Ze (Zo rfl rfl)) ?_
      refine Zb 14 rfl rfl ⟨[0], by decide, rfl⟩ (Ze (ZS rfl)) ?_
      refine ZR (.inr ⟨[0], by decide, rfl⟩) ?_
      refine Zf <| Zj rfl <| Zc <| Za <| gas rfl rfl <| gA <| Zt <| Zy <| Zg <| ZC (.inl rfl) Tryz.results44 rfl [] (by decide) ?_
      refine ⟨congrArg (Value.int .i64) (Eq.symm ?_), rfl⟩
      unfold pnE
      rw [if_pos h8]
      rw [if_neg (by omega), if_pos (by omega)]
    refine Zb 13 rfl rfl ⟨[0], by decide, rfl⟩ (Ze (Zo rfl rfl)) ?_
    refine Zb 14 rfl rfl ⟨[0], by decide, rfl⟩ (Ze (ZS rfl)) ?_
    refine ZR (.inr ⟨[0], by decide, rfl⟩) ?_
    refine Zf <| Zk rfl <| Zx <| ZM <| Zf <| Zc <| Za <| gas rfl rfl <| gA <| Zt <| ZC (.inl rfl) Tryz.results44 rfl [] (by decide) ?_
    refine ⟨congrArg (Value.int .i64) (Eq.symm ?_), rfl⟩
    unfold pnE
    rw [if_pos h8]
    rw [if_neg (by omega), if_neg (by omega)]
  refine gA <| Zk rfl <| Zx <| Zf <| Zc <| ZI <| Zc <| Za <| gr rfl (Zd rfl (JZ _)) <| gr rfl (Zh Tryz.underlying3 rfl rfl (by exact Zq 0 rfl rfl)) ?_
  refine gr rfl (Z5 rfl rfl) (Zv (fun hd7 => ?_) (fun hd7 => ?_))
  · refine gm rfl rfl <| Zu rfl rfl rfl <| Zu rfl rfl rfl <| Zu rfl rfl rfl <| gr rfl (ZE rfl rfl) <| gm rfl rfl <| Zu rfl rfl rfl <| Zu rfl rfl rfl <| Zu rfl rfl rfl <| gr rfl (ZE rfl rfl) <| gm rfl rfl <| Zu rfl rfl rfl <| Zu rfl rfl rfl <| Zu rfl rfl rfl <| Zu rfl rfl rfl <| gr rfl (ZE rfl rfl) <| gas rfl rfl <| gA <| Zj rfl <| Zc <| Za <| gas rfl rfl <| ZW <| Zf ?_
    refine Zt <| Zy <| Zg <| ZC (.inl rfl) Tryz.results44 rfl [] (by decide) ?_
    refine ⟨congrArg (Value.int .i64) (Eq.symm ?_), rfl⟩
    unfold pnE
    rw [if_neg h8]
    rw [if_pos (by omega)]
  refine gm rfl rfl <| Zl rfl rfl <| Zs rfl (Zd rfl (JZ _)) <| Zl rfl rfl (Zs rfl (Zh Tryz.underlying3 rfl rfl (by exact Zq 0 rfl rfl)) ?_)
  refine Zl rfl rfl (Zs rfl (YG rfl rfl) (Zv (fun hd8 => ?_) (fun hd8 => ?_)))
  · refine gr rfl (Zo rfl rfl) <| gm rfl rfl <| Zu rfl rfl rfl <| Zu rfl rfl rfl <| Zu rfl rfl rfl <| gr rfl (ZE rfl rfl) <| gm rfl rfl <| Zu rfl rfl rfl <| Zu rfl rfl rfl <| Zu rfl rfl rfl <| Zu rfl rfl rfl <| gr rfl (ZE rfl rfl) <| gas rfl rfl <| gA <| Zj rfl <| Zc <| Za <| gas rfl rfl <| gA <| Zt <| Zy <| Zg <| ZC (.inl rfl) Tryz.results44 rfl [] (by decide) ?_
    refine ⟨congrArg (Value.int .i64) (Eq.symm ?_), rfl⟩
    unfold pnE
    rw [if_neg h8]
    rw [if_pos (by omega)]
  refine gr rfl (Zo rfl rfl) <| gm rfl rfl <| Zl rfl rfl <| Zs rfl (Zd rfl (Zbc _)) <| Zl rfl rfl (Zs rfl (Zh Tryz.underlying3 rfl rfl (by exact Zq 0 rfl rfl)) ?_)
  refine Zl rfl rfl (Zs rfl (Z5 rfl rfl) (Zv (fun hd9 => ?_) (fun hd9 => ?_)))
  · refine gr rfl (Zo rfl rfl) <| gm rfl rfl <| Zu rfl rfl rfl <| Zu rfl rfl rfl <| Zu rfl rfl rfl <| Zu rfl rfl rfl <| gr rfl (ZE rfl rfl) <| gas rfl rfl <| gA <| Zj rfl <| Zc <| Za <| gas rfl rfl <| gA <| Zt <| Zy <| Zg <| ZC (.inl rfl) Tryz.results44 rfl [] (by decide) ?_
    refine ⟨congrArg (Value.int .i64) (Eq.symm ?_), rfl⟩
    unfold pnE
    rw [if_neg h8]
    rw [if_pos (by omega)]
  refine gr rfl (Zo rfl rfl) <| gm rfl rfl <| Zl rfl rfl <| Zs rfl (Zd rfl (Zbc _)) <| Zl rfl rfl (Zs rfl (Zh Tryz.underlying3 rfl rfl (by exact Zq 0 rfl rfl)) ?_)
  refine Zl rfl rfl <| Zs rfl (Zi rfl) <| Zl rfl rfl (Zs rfl (YG rfl rfl) (Zv (fun hd10 => ?_) (fun hd10 => ?_)))
  · refine gr rfl (Zo rfl rfl) <| gas rfl rfl <| gA <| Zj rfl <| Zc <| Za <| gas rfl rfl <| gA <| Zt <| Zy <| Zg <| ZC (.inl rfl) Tryz.results44 rfl [] (by decide) ?_
    refine ⟨congrArg (Value.int .i64) (Eq.symm ?_), rfl⟩
    unfold pnE
    rw [if_neg h8]
    rw [if_pos (by omega)]
  refine gr rfl (Zo rfl rfl) <| gas rfl rfl <| gA <| Zk rfl <| Zc <| ZV [0] true 14 rfl <| Zb 0 rfl rfl ⟨[0], by decide, rfl⟩ (Ze (Zd rfl (Wf _))) ?_
  refine Zb 1 rfl rfl ⟨[0], by decide, rfl⟩ (Ze (Zh Tryz.underlying3 rfl rfl (by exact Zq 0 rfl rfl))) ?_
  refine Zb 2 rfl rfl ⟨[0], by decide, rfl⟩ (Ze (Z5 rfl rfl)) (Zv (fun hd11 => ?_) (fun hd11 => ?_))
  · refine Zb 3 rfl rfl ⟨[0], by decide, rfl⟩ (Ze (Zi rfl)) ?_
    refine ZT 4 rfl rfl rfl rfl rfl ⟨[0], by decide, rfl⟩ ?_
    refine ZT 5 rfl rfl rfl rfl rfl ⟨[0], by decide, rfl⟩ ?_
    refine ZT 6 rfl rfl rfl rfl rfl ⟨[0], by decide, rfl⟩ ?_
    refine ZT 7 rfl rfl rfl rfl rfl ⟨[0], by decide, rfl⟩ ?_
    refine ZT 8 rfl rfl rfl rfl rfl ⟨[0], by decide, rfl⟩ ?_
    refine ZT 9 rfl rfl rfl rfl rfl ⟨[0], by decide, rfl⟩ ?_
    refine ZT 10 rfl rfl rfl rfl rfl ⟨[0], by decide, rfl⟩ ?_
    refine ZT 11 rfl rfl rfl rfl rfl ⟨[0], by decide, rfl⟩ ?_
    refine ZT 12 rfl rfl rfl rfl rfl ⟨[0], by decide, rfl⟩ ?_
    refine Zb 13 rfl rfl ⟨[0], by decide, rfl⟩ (Ze (ZE rfl rfl)) ?_
    refine Zb 14 rfl rfl ⟨[0], by decide, rfl⟩ (Ze (ZS rfl)) ?_
    refine ZR (.inr ⟨[0], by decide, rfl⟩) ?_
    refine Zf <| Zj rfl <| Zc <| Za <| gas rfl rfl <| gA <| Zt <| Zy <| Zg <| ZC (.inl rfl) Tryz.results44 rfl [] (by decide) ?_
    refine ⟨congrArg (Value.int .i64) (Eq.symm ?_), rfl⟩
    unfold pnE
    rw [if_neg h8]
    rw [if_neg (by omega), if_pos (by omega)]
  refine Zb 3 rfl rfl ⟨[0], by decide, rfl⟩ (Ze (Zi rfl)) ?_
  refine Zm 4 rfl rfl rfl rfl rfl ⟨[0], by decide, rfl⟩ (Ze (Zd rfl (Wf _))) ?_
  refine Zm 5 rfl rfl rfl rfl rfl ⟨[0], by decide, rfl⟩ (Ze (Zh Tryz.underlying3 rfl rfl (by exact Zq 0 rfl rfl))) ?_
  refine Zm 6 rfl rfl rfl rfl rfl ⟨[0], by decide, rfl⟩ (Ze (Zi rfl)) ?_
  refine Zm 7 rfl rfl rfl rfl rfl ⟨[0], by decide, rfl⟩ (Ze (ZL rfl)) ?_
  refine Zm 8 rfl rfl rfl rfl rfl ⟨[0], by decide, rfl⟩ (Ze (Zd rfl (Jd _))) ?_
  refine Zm 9 rfl rfl rfl rfl rfl ⟨[0], by decide, rfl⟩ (Ze (Zd rfl (WB _))) ?_
  refine Zm 10 rfl rfl rfl rfl rfl ⟨[0], by decide, rfl⟩ (Ze (Zh Tryz.underlying40 rfl rfl (by exact Yf (by assumption) (by simp) rfl))) ?_
  refine Zm 11 rfl rfl rfl rfl rfl ⟨[0], by decide, rfl⟩ (Ze (ZG Tryz.underlying40 rfl)) ?_
  refine Zm 12 rfl rfl rfl rfl rfl ⟨[0], by decide, rfl⟩ (Ze (Wn rfl rfl)) (Zv (fun hd12 => ?_) (fun hd12 => ?_))
  · refine Zb 13 rfl rfl ⟨[0], by decide, rfl⟩ (Ze (Zo rfl rfl)) ?_
    refine Zb 14 rfl rfl ⟨[0], by decide, rfl⟩ (Ze (ZS rfl)) ?_
    refine ZR (.inr ⟨[0], by decide, rfl⟩) ?_
    refine Zf <| Zj rfl <| Zc <| Za <| gas rfl rfl <| gA <| Zt <| Zy <| Zg <| ZC (.inl rfl) Tryz.results44 rfl [] (by decide) ?_
    refine ⟨congrArg (Value.int .i64) (Eq.symm ?_), rfl⟩
    unfold pnE
    rw [if_neg h8]
    rw [if_neg (by omega), if_pos (by omega)]
  refine Zb 13 rfl rfl ⟨[0], by decide, rfl⟩ (Ze (Zo rfl rfl)) ?_
  refine Zb 14 rfl rfl ⟨[0], by decide, rfl⟩ (Ze (ZS rfl)) ?_
  refine ZR (.inr ⟨[0], by decide, rfl⟩) ?_
  refine Zf <| Zk rfl <| Zx <| ZM <| Zf <| Zc <| Za <| gas rfl rfl <| gA <| Zt <| ZC (.inl rfl) Tryz.results44 rfl [] (by decide) ?_
  refine ⟨congrArg (Value.int .i64) (Eq.symm ?_), rfl⟩
  unfold pnE
  rw [if_neg h8]
  rw [if_neg (by omega), if_neg (by omega)]
theorem Zk7 (l : List Int) (a : Option Addr) (cp m : Nat) (hl : l.length ≤ 140737488355328) (hm : m ≤ 1000) (w0 : World) (hsl : OldSl w0 [] a l.length 1 (l.map Wb)) : Sp Tryz.prog 90 [.slice a l.length cp, natV m] w0 [] (RV (.int .i64 (Vr l 0 ((m : Int) - 1) 4))) := by
  refine ZB Tryz.func90 rfl Tryz.ntmps90 rfl (Own.refl _) ?_
  simp only [ZU]
  refine Zc <| Za <| gas rfl rfl <| gA <| Zc <| Zc <| Za <| gm rfl rfl <| gr rfl (ZG Tryz.underlying24 rfl) <| gm rfl rfl <| gA <| ZI <| Z3 (ι := Nat) [(0, _), (1, _), (7, _), (8, _)] [] (fun k => k ≤ l.length ∧ ∀ j, j < k → Xw l 0 ((m : Int) - 1) 4 j = 0) (fun k Fr0 => ((9, natV k) :: Fr0)) (fun k Fr0 => Fr0) (fun k => l.length - k) 0 (⟨Nat.zero_le _, fun j h => absurd h (Nat.not_lt_zero j)⟩) ⟨rfl, rfl, rfl, rfl, rfl, trivial⟩ ⟨[], by decide, rfl⟩ ?_
  rintro k ⟨hk, hall⟩
  refine Zc <| Za <| gr rfl (Z5 rfl rfl) (Zv (fun h10 => ?_) (fun h10 => ?_))
  · obtain ⟨z, hz⟩ := get_some (show k < l.length by omega)
    refine gA <| Zc <| Zj rfl <| Zx <| Zf <| Zc <| ZI <| Zc <| Za <| gm rfl rfl <| gr rfl (Yb hsl Tryz.underlying24 Xz rfl rfl (by omega) (by omega)) ?_
    refine gr rfl (Zh Tryz.underlying3 rfl rfl (Xe hsl (get_z hz))) <| gas rfl rfl <| gas rfl rfl <| gA <| ZI <| Zc <| Za <| gm rfl rfl <| gr rfl (Z5 rfl rfl) (Zv (fun hd1 => ?_) (fun hd1 => ?_))
    · refine gm rfl rfl <| Zu rfl rfl rfl <| Zu rfl rfl rfl <| Zu rfl rfl rfl <| gr rfl (ZE rfl rfl) <| gas rfl rfl <| gA <| Zj rfl <| Zc <| Za <| gas rfl rfl <| gA <| Zt <| Zy <| Zy <| Zg <| Zg <| Zy <| Zg <| ZC (.inl rfl) Tryz.results90 rfl [] (by decide) ?_
      refine ⟨congrArg (Value.int .i64) (Eq.symm ?_), rfl⟩
      have he : Xw l 0 ((m : Int) - 1) 4 k = 4 := Ze0 hz (by omega)
      exact (Zaj (by omega) hall (by rw [he]; decide)).trans he
    refine gm rfl rfl <| Zl rfl rfl <| Zs rfl (Zi rfl) <| Zl rfl rfl <| Zs rfl (Zi rfl) <| Zl rfl rfl (Zs rfl (Wn rfl rfl) (Zv (fun hd2 => ?_) (fun hd2 => ?_)))
    · refine gr rfl (Zo rfl rfl) <| gas rfl rfl <| gA <| Zj rfl <| Zc <| Za <| gas rfl rfl <| gA <| Zt <| Zy <| Zy <| Zg <| Zg <| Zy <| Zg <| ZC (.inl rfl) Tryz.results90 rfl [] (by decide) ?_
      refine ⟨congrArg (Value.int .i64) (Eq.symm ?_), rfl⟩
      have he : Xw l 0 ((m : Int) - 1) 4 k = 4 := Ze0 hz (by omega)
      exact (Zaj (by omega) hall (by rw [he]; decide)).trans he
    refine gr rfl (Zo rfl rfl) <| gas rfl rfl <| gA <| Zk rfl <| Zc <| Za <| gm rfl rfl <| gr rfl (YG rfl rfl) (Zv (fun h24 => ?_) (fun h24 => ?_))
    · obtain ⟨y, hy⟩ := get_some (show k - 1 < l.length by omega)
      refine gm rfl rfl <| Zl rfl rfl <| Zs rfl (Zi rfl) <| Zl rfl rfl <| Zs rfl (Zi rfl) <| Zl rfl rfl <| Zs rfl (Zi rfl) <| Zl rfl rfl (Zs rfl (by exact Za2 (b := 1) rfl rfl (by omega) (by omega)) ?_)
      refine Zl rfl rfl (Zs rfl (Yb hsl Tryz.underlying24 Xz rfl rfl (by omega) (by omega)) ?_)
      refine Zl rfl rfl <| Zs rfl (Zh Tryz.underlying3 rfl rfl (Xe hsl (get_z hy))) <| Zl rfl rfl (Zs rfl (Zae rfl rfl) (Zv (fun hd3 => ?_) (fun hd3 => ?_)))
      · refine gr rfl (ZE rfl rfl) <| gas rfl rfl <| gA <| Zj rfl <| Zc <| Za <| gas rfl rfl <| gA <| Zt <| Zy <| Zy <| Zg <| Zg <| Zy <| Zg <| ZC (.inl rfl) Tryz.results90 rfl [] (by decide) ?_
        refine ⟨congrArg (Value.int .i64) (Eq.symm ?_), rfl⟩
        have he : Xw l 0 ((m : Int) - 1) 4 k = 8 := Zih hz hy (by omega) (by omega) (by omega) (by omega)
        exact (Zaj (by omega) hall (by rw [he]; decide)).trans he
      refine gr rfl (ZE rfl rfl) <| gas rfl rfl <| gA <| Zk rfl <| Zx <| ZM <| ZM <| Zf <| Za <| gr rfl (by exact ZN (b := 1) rfl rfl (by omega)) ?_
      refine gm rfl rfl <| ZW <| Zf ?_
      exact Z1 (k + 1) ⟨⟨by omega, fun j hj => by
        rcases Nat.lt_or_eq_of_le (Nat.le_of_lt_succ hj) with h | rfl
        · exact hall j h
        · exact Zgq hz (by omega) (by omega) (fun _ => by rw [getD_some hy]; omega)⟩, by omega⟩ ⟨rfl, rfl, rfl, rfl, rfl, trivial⟩ ⟨[], by decide, rfl⟩
    refine gm rfl rfl <| Zu rfl rfl rfl <| Zu rfl rfl rfl <| Zu rfl rfl rfl <| Zu rfl rfl rfl <| Zu rfl rfl rfl <| Zu rfl rfl rfl <| Zu rfl rfl rfl <| gr rfl (Zo rfl rfl) <| gas rfl rfl <| gA <| Zk rfl <| Zx <| ZM <| ZM <| Zf <| Za <| gr rfl (by exact ZN (b := 1) rfl rfl (by omega)) ?_
    refine gm rfl rfl <| ZW <| Zf ?_
    exact Z1 (k + 1) ⟨⟨by omega, fun j hj => by
      rcases Nat.lt_or_eq_of_le (Nat.le_of_lt_succ hj) with h | rfl
      · exact hall j h
      · exact Zgq hz (by omega) (by omega) (fun h => by omega)⟩, by omega⟩ ⟨rfl, rfl, rfl, rfl, rfl, trivial⟩ ⟨[], by decide, rfl⟩
  refine gA <| Zc <| Zk rfl <| Z4 <| Zw <| Zw <| ZK <| Zf <| Zc <| Za <| gas rfl rfl <| gA <| Zt <| ZC (.inl rfl) Tryz.results90 rfl [] (by decide) ?_
  refine ⟨congrArg (Value.int .i64) (Eq.symm ?_), rfl⟩
  exact Zez (fun j hj => hall j (by omega))
theorem WR (s : Org) (bp bs : Nat) (w0 : World) (hP : PsIn s bp bs w0 []) (ss cs : List Int) (a1 a2 : Option Addr) (c1 c2 : Nat) (hl1 : ss.length ≤ 140737488355328) (hl2 : cs.length ≤ 140737488355328) (h1 : OldSl w0 [] a1 ss.length 1 (ss.map Wb)) (h2 : OldSl w0 [] a2 cs.length 1 (cs.map Wb)) : Sp Tryz.prog 45 [.pointer (some ⟨bp, 0, none⟩), .agg #[.slice a1 ss.length c1, .slice a2 cs.length c2]] w0 [] (RV (.int .i64 (Xf s.ss.length s.cs.length ss cs))) := by
  have hp := hP.p
  have hp2 := hP.sp
  have hnd := hP.nd
  have hns := hP.ns
  have hnc := hP.nc
  refine ZB Tryz.func45 rfl Tryz.ntmps45 rfl (Own.refl _) ?_
  simp only [ZU]
  refine Zc <| Za <| Zn (Z7 rfl rfl rfl (fun b3 => ?_))
  refine gas rfl rfl <| gA <| Zc <| Zc <| ZV [0] true 9 rfl <| Zb 0 rfl rfl ⟨[0], by decide, rfl⟩ (Ze (Zd rfl (YZ _))) ?_
  refine Zb 1 rfl rfl ⟨[0], by decide, rfl⟩ (Ze (Zh Tryz.underlying24 rfl rfl (by exact Zq 0 rfl rfl))) ?_
  refine Zb 2 rfl rfl ⟨[0], by decide, rfl⟩ (Ze (Zi rfl)) ?_
  refine Zb 3 rfl rfl ⟨[0], by decide, rfl⟩ (Ze (ZL rfl)) ?_
  refine Zb 4 rfl rfl ⟨[0], by decide, rfl⟩ (Ze (Zd rfl (Jd _))) ?_
  refine Zb 5 rfl rfl ⟨[0], by decide, rfl⟩ (Ze (Zd rfl (J0 _))) ?_
  refine Zb 6 rfl rfl ⟨[0], by decide, rfl⟩ (Ze (Zh Tryz.underlying42 rfl rfl (by exact Yf (by assumption) (by simp) rfl))) ?_
  refine Zb 7 rfl rfl ⟨[0], by decide, rfl⟩ (Ze (ZG Tryz.underlying42 rfl)) ?_
  refine Zb 8 rfl rfl ⟨[0], by decide, rfl⟩ (YE (vf := []) (vc := []) rfl rfl Tryz.call90 (fun w1 ho => Zk7 ss a1 c1 s.ss.length hl1 (by omega) w1 (h1.at ho)) (by rintro _ _ ⟨h, _⟩; exact h)) ?_
  refine Zb 9 rfl rfl ⟨[0], by decide, rfl⟩ (Ze (ZS rfl)) ?_
  refine ZR (.inr ⟨[0], by decide, rfl⟩) ?_
  refine Zf <| Zc <| Za <| gm rfl rfl <| gr rfl (ZP rfl rfl) (Zv (fun h16 => ?_) (fun h16 => ?_))
  · refine gA <| Zj rfl <| Zc <| Za <| gm rfl rfl <| gas rfl rfl <| gA <| Zt <| Zg <| ZC (.inl rfl) Tryz.results45 rfl [] (by decide) ?_
    refine ⟨congrArg (Value.int .i64) (Eq.symm ?_), rfl⟩
    unfold Xf
    rw [if_pos h16]
  refine gA <| Zk rfl <| Zx <| Zf <| Zc <| ZV [0] true 9 rfl <| Zb 0 rfl rfl ⟨[0], by decide, rfl⟩ (Ze (Zd rfl (Y0 _))) ?_
  refine Zb 1 rfl rfl ⟨[0], by decide, rfl⟩ (Ze (Zh Tryz.underlying24 rfl rfl (by exact Zq 0 rfl rfl))) ?_
  refine Zb 2 rfl rfl ⟨[0], by decide, rfl⟩ (Ze (Zi rfl)) ?_
  refine Zb 3 rfl rfl ⟨[0], by decide, rfl⟩ (Ze (ZL rfl)) ?_
  refine Zb 4 rfl rfl ⟨[0], by decide, rfl⟩ (Ze (Zd rfl (Jd _))) ?_
  refine Zb 5 rfl rfl ⟨[0], by decide, rfl⟩ (Ze (Zd rfl (J1 _))) ?_
  refine Zb 6 rfl rfl ⟨[0], by decide, rfl⟩ (Ze (Zh Tryz.underlying43 rfl rfl (by exact Yf (by assumption) (by simp) rfl))) ?_
  refine Zb 7 rfl rfl ⟨[0], by decide, rfl⟩ (Ze (ZG Tryz.underlying43 rfl)) ?_
  refine Zb 8 rfl rfl ⟨[0], by decide, rfl⟩ (YE (vf := []) (vc := []) rfl rfl Tryz.call90 (fun w1 ho => Zk7 cs a2 c2 s.cs.length hl2 (by omega) w1 (h2.at ho)) (by rintro _ _ ⟨h, _⟩; exact h)) ?_
  refine Zb 9 rfl rfl ⟨[0], by decide, rfl⟩ (Ze (ZS rfl)) ?_
  refine ZR (.inr ⟨[0], by decide, rfl⟩) ?_
  refine Zf <| Zt <| ZC (.inl rfl) Tryz.results45 rfl [] (by decide) ?_
  refine ⟨congrArg (Value.int .i64) (Eq.symm ?_), rfl⟩
  unfold Xf
  rw [if_neg h16]
theorem Jp (bp : Nat) (b : Bool) (w0 : World) (hc : w0.cell? ⟨bp, 0, none⟩ = some (.bool b)) : Sp Tryz.prog 43 [.pointer (some ⟨bp, 0, none⟩)] w0 [] (RV (.bool (!b))) := by
  refine ZB Tryz.func43 rfl Tryz.ntmps43 rfl (Own.refl _) ?_
  simp only [ZU]
  refine Zc <| Za <| gas rfl rfl <| gA <| Zc <| Za <| gm rfl rfl <| gr rfl (Y5 eg_36 Tryz.underlying36 rfl rfl) <| gm rfl rfl <| Zl rfl rfl <| Zs rfl (Zi rfl) <| Zl rfl rfl <| Zs rfl (ZL rfl) <| Zl rfl rfl <| Zs rfl (Zd rfl (fa_52_0 _)) <| Zl rfl rfl (Zs rfl (Zh Tryz.underlying4 rfl rfl (Vy hc (by simp))) ?_)
  refine Zl rfl rfl <| Zs rfl (rd_not rfl) <| gr rfl (Zo rfl rfl) <| gas rfl rfl <| gA <| Zt <| ZC (.inl rfl) Tryz.results43 rfl [] (by decide) ?_
  exact ⟨rfl, rfl⟩
theorem Zos (w0 : World) : Sp Tryz.prog 43 [.pointer none] w0 [] (RV (.bool true)) := by
  refine ZB Tryz.func43 rfl Tryz.ntmps43 rfl (Own.refl _) ?_
  simp only [ZU]
  refine Zc <| Za <| gas rfl rfl <| gA <| Zc <| Za <| gm rfl rfl <| gr rfl (Y5 eg_36 Tryz.underlying36 rfl rfl) <| gm rfl rfl <| Zu rfl rfl rfl <| Zu rfl rfl rfl <| Zu rfl rfl rfl <| Zu rfl rfl rfl <| Zu rfl rfl rfl <| gr rfl (ZE rfl rfl) <| gas rfl rfl <| gA <| Zt <| ZC (.inl rfl) Tryz.results43 rfl [] (by decide) ?_
  exact ⟨rfl, rfl⟩
end Go.Proofs.YthcbcdjkfefnlaaGreatDoor
namespace Go.Proofs.YthcbcdjkfefnlaaGreatDoor
open Go.Gv
open Go.RowKit
open Go.Sn hiding En keysP keysP_len stop_ok
open Go.Ps
open Iv Sx Ip
theorem pack_okP (ss cs : List Nat) (a1 a2 : Option Addr) (c1 c2 : Nat) (hs : ∀ i ∈ ss, i < 80) (hc : ∀ i ∈ cs, i < 24) (hsl : ss.length ≤ 1000) (hcl : cs.length ≤ 1000) (w0 : World) (h1 : OldSl w0 [] a1 ss.length 1 (ss.map natV)) (h2 : OldSl w0 [] a2 cs.length 1 (cs.map natV)) : Sp Tryz.prog 55 [.agg #[.slice a1 ss.length c1, .slice a2 cs.length c2]] w0 [] (fun v L => ∃ b, v = .slice (rowA (some b)) 14 14 ∧ L = [.row 5 1 (some b) 14 14 ((packR ss cs).map u8V)]) := by
  refine ZB Tryz.func55 rfl Tryz.ntmps55 rfl (Own.refl _) ?_
  simp only [ZU]
  refine Zc <| Za <| Zn (Z7 rfl rfl rfl (fun b1 => ?_))
  refine gas rfl rfl <| gA <| Zc <| Za <| Zn (Zay (14) Tryz.underlying65 Yp rfl rfl rfl (by omega) (by omega) (by omega) (by omega) (fun b8 => ?_))
  refine gas rfl rfl <| gA <| Zc ?_
  rw [Zi8 _ rfl]
  refine Za <| gm rfl rfl <| gr rfl (Yi 0 rfl Tryz.underlying65 Yp rfl rfl (by omega) (by omega)) ?_
  refine Zn (Zcr 0 Yp rfl rfl rfl rfl (by simp) (by rfl) ?_)
  refine gA <| Zc <| Zc ?_
  change GK _ _ _ _ _ _ [.row 5 1 (some b8) 14 14 (pk0.map u8V), .blk b1 _ _]
  refine Za <| gr rfl (Zd rfl (YZ _)) <| gr rfl (Zh Tryz.underlying24 rfl rfl (by exact Zq 1 rfl rfl)) ?_
  refine gr rfl (ZG Tryz.underlying24 rfl) <| gm rfl rfl <| gA <| ZI <| Z3 (ι := Nat) [(1, _), (3, _), (12, _), (13, _)] [_] (fun k => k ≤ ss.length) (fun k Fr0 => ((14, natV k) :: Fr0)) (fun k Fr0 => (.row 5 1 (some b8) 14 14 ((packS pk0 1 (ss.take k)).map u8V) :: Fr0)) (fun k => ss.length - k) 0 (Nat.zero_le _) ⟨rfl, rfl, rfl, rfl, rfl, trivial⟩ ⟨[0, 1], by decide, rfl⟩ ?_
  rintro k hk
  refine Zc <| Za <| gr rfl (Z5 rfl rfl) (Zv (fun h15 => ?_) (fun h15 => ?_))
  · obtain ⟨i, hx⟩ := get_some (show k < ss.length by omega)
    have hi9 := hs i (List.mem_of_getElem? hx)
    have hpl : (packS pk0 1 (ss.take k)).length = 14 := by rw [Ww]; rfl
    have hpl2 : (((packS pk0 1 (ss.take k))).map u8V).length = 14 := by rw [List.length_map]; exact hpl
    have hp8 := Znp i
    have hlt : ∀ z ∈ (packS pk0 1 (ss.take k)), z < 256 := VX _ _ (pk0_lt)
    refine gA <| Zc <| Zj rfl <| Zx <| Zf <| Zc <| ZI <| Zc <| Za <| gr rfl (Yb h1 Tryz.underlying24 Xz rfl rfl (by omega) (by omega)) ?_
    refine gr rfl (Zh Tryz.underlying3 rfl rfl (Xe h1 (Wu hx))) <| gas rfl rfl <| gA <| ZV [0, 1] false 11 rfl <| Zb 0 rfl rfl ⟨[0, 1], by decide, rfl⟩ (Ze (Zi rfl)) ?_
    refine Zb 1 rfl rfl ⟨[0, 1], by decide, rfl⟩ (Ze (Zi rfl)) ?_
    refine Zb 2 rfl rfl ⟨[0, 1], by decide, rfl⟩ (Ze (by exact Vk (b := 8) rfl rfl (by omega) (by omega))) ?_
    refine Zb 3 rfl rfl ⟨[0, 1], by decide, rfl⟩ (Ze (by exact ZN (a := 1) rfl rfl (by omega))) ?_
    refine Zb 4 rfl rfl ⟨[0, 1], by decide, rfl⟩ (Ze (Yi 0 rfl Tryz.underlying65 Yp rfl rfl (by omega) (by omega))) ?_
    refine Zb 5 rfl rfl ⟨[0, 1], by decide, rfl⟩ (Ze (Zh Tryz.underlying5 rfl rfl (X2 0 rfl (Zhw (by rw [hpl]; omega))))) ?_
    refine Zb 6 rfl rfl ⟨[0, 1], by decide, rfl⟩ (Ze (Zi rfl)) ?_
    refine Zb 7 rfl rfl ⟨[0, 1], by decide, rfl⟩ (Ze (by exact Vj (b := 8) rfl rfl (by omega))) ?_
    refine Zb 8 rfl rfl ⟨[0, 1], by decide, rfl⟩ (Ze (Zm1 (a := 1) (b := i % 8) (c := 2 ^ (i % 8)) rfl rfl (by omega) (Nat.one_mul _) hp8)) ?_
    refine Zb 9 rfl rfl ⟨[0, 1], by decide, rfl⟩ (Ze (Zb8 (b := 2 ^ (i % 8)) rfl rfl (getD_lt hlt _) hp8)) ?_
    refine Zb 10 rfl rfl ⟨[0, 1], by decide, rfl⟩ (Ze (Yi 0 rfl Tryz.underlying65 Yp rfl rfl (by omega) (by omega))) ?_
    refine ZF 11 rfl (.inr ⟨[0, 1], by decide, rfl⟩) (Yl 0 Yp rfl rfl rfl rfl (by rw [hpl2]; omega) (Zk8 hx rfl) (by rfl) ?_)
    refine ZR (.inl (by kernel_rfl)) ?_
    refine ZM <| Zf <| Za <| gr rfl (by exact ZN (b := 1) rfl rfl (by omega)) ?_
    refine gm rfl rfl <| ZW <| Zf ?_
    exact Z1 (k + 1) ⟨by omega, by omega⟩ ⟨rfl, rfl, rfl, rfl, rfl, trivial⟩ ⟨[0, 1], by decide, rfl⟩
  refine gA <| Zc <| Zk rfl <| Z4 <| Zw <| Zw <| ZK <| Zf <| Zc <| Zc ?_
  have hk9 : k = ss.length := by omega
  subst hk9
  rw [List.take_length]
  refine Za <| gr rfl (Zd rfl (Y0 _)) <| gr rfl (Zh Tryz.underlying24 rfl rfl (by exact Zq 1 rfl rfl)) ?_
  refine gr rfl (ZG Tryz.underlying24 rfl) <| gm rfl rfl <| gA <| ZI <| Z3 (ι := Nat) [(3, _), (31, _), (32, _)] [_] (fun k => k ≤ cs.length) (fun k Fr0 => ((33, natV k) :: Fr0)) (fun k Fr0 => (.row 5 1 (some b8) 14 14 ((packS (packS pk0 1 ss) 11 (cs.take k)).map u8V) :: Fr0)) (fun k => cs.length - k) 0 (Nat.zero_le _) ⟨rfl, rfl, rfl, rfl, trivial⟩ ⟨[0, 1], by decide, rfl⟩ ?_
  rintro k hk
  refine Zc <| Za <| gr rfl (Z5 rfl rfl) (Zv (fun h34 => ?_) (fun h34 => ?_))
  · obtain ⟨i, hx⟩ := get_some (show k < cs.length by omega)
    have hi9 := hc i (List.mem_of_getElem? hx)
    have hpl : (packS (packS pk0 1 ss) 11 (cs.take k)).length = 14 := by rw [Ww, Ww]; rfl
    have hpl2 : (((packS (packS pk0 1 ss) 11 (cs.take k))).map u8V).length = 14 := by rw [List.length_map]; exact hpl
    have hp8 := Znp i
    have hlt : ∀ z ∈ (packS (packS pk0 1 ss) 11 (cs.take k)), z < 256 := VX _ _ (VX _ _ pk0_lt)
    refine gA <| Zc <| Zj rfl <| Zx <| Zf <| Zc <| ZI <| Zc <| Za <| gr rfl (Yb h2 Tryz.underlying24 Xz rfl rfl (by omega) (by omega)) ?_
    refine gr rfl (Zh Tryz.underlying3 rfl rfl (Xe h2 (Wu hx))) <| gas rfl rfl <| gA <| ZV [0, 1] false 11 rfl <| Zb 0 rfl rfl ⟨[0, 1], by decide, rfl⟩ (Ze (Zi rfl)) ?_
    refine Zb 1 rfl rfl ⟨[0, 1], by decide, rfl⟩ (Ze (Zi rfl)) ?_
    refine Zb 2 rfl rfl ⟨[0, 1], by decide, rfl⟩ (Ze (by exact Vk (b := 8) rfl rfl (by omega) (by omega))) ?_
    refine Zb 3 rfl rfl ⟨[0, 1], by decide, rfl⟩ (Ze (by exact ZN (a := 11) rfl rfl (by omega))) ?_
    refine Zb 4 rfl rfl ⟨[0, 1], by decide, rfl⟩ (Ze (Yi 0 rfl Tryz.underlying65 Yp rfl rfl (by omega) (by omega))) ?_
    refine Zb 5 rfl rfl ⟨[0, 1], by decide, rfl⟩ (Ze (Zh Tryz.underlying5 rfl rfl (X2 0 rfl (Zhw (by rw [hpl]; omega))))) ?_
    refine Zb 6 rfl rfl ⟨[0, 1], by decide, rfl⟩ (Ze (Zi rfl)) ?_
    refine Zb 7 rfl rfl ⟨[0, 1], by decide, rfl⟩ (Ze (by exact Vj (b := 8) rfl rfl (by omega))) ?_
    refine Zb 8 rfl rfl ⟨[0, 1], by decide, rfl⟩ (Ze (Zm1 (a := 1) (b := i % 8) (c := 2 ^ (i % 8)) rfl rfl (by omega) (Nat.one_mul _) hp8)) ?_
    refine Zb 9 rfl rfl ⟨[0, 1], by decide, rfl⟩ (Ze (Zb8 (b := 2 ^ (i % 8)) rfl rfl (getD_lt hlt _) hp8)) ?_
    refine Zb 10 rfl rfl ⟨[0, 1], by decide, rfl⟩ (Ze (Yi 0 rfl Tryz.underlying65 Yp rfl rfl (by omega) (by omega))) ?_
    refine ZF 11 rfl (.inr ⟨[0, 1], by decide, rfl⟩) (Yl 0 Yp rfl rfl rfl rfl (by rw [hpl2]; omega) (Zk8 hx rfl) (by rfl) ?_)
    refine ZR (.inl (by kernel_rfl)) ?_
    refine ZM <| Zf <| Za <| gr rfl (by exact ZN (b := 1) rfl rfl (by omega)) ?_
    refine gm rfl rfl <| ZW <| Zf ?_
    exact Z1 (k + 1) ⟨by omega, by omega⟩ ⟨rfl, rfl, rfl, rfl, trivial⟩ ⟨[0, 1], by decide, rfl⟩
  refine gA <| Zc <| Zk rfl <| Z4 <| Zw <| Zw <| ZK <| Zf <| Zc <| Za <| gm rfl rfl <| gas rfl rfl <| gA <| Zt <| ZC (.inl rfl) Tryz.results55 rfl [0] (by decide) ?_
  have hk9 : k = cs.length := by omega
  subst hk9
  rw [List.take_length]
  exact ⟨b8, rfl, rfl⟩
theorem Zmm (bs : List Nat) (hbs : ∀ z ∈ bs, z < 256) (hlen : bs.length = 14) (a : Option Addr) (cp : Nat) (w0 : World) (hsl : OldSl w0 [] a 14 1 (bs.map u8V)) : Sp Tryz.prog 91 [.slice a 14 cp] w0 [] (fun v L => ∃ (r : Option Nat) (c : Nat) (r2 : Option Nat) (c2 : Nat), v = .agg #[.slice (rowA r) (unpS bs 1 80).length c, .slice (rowA r2) (unpS bs 11 24).length c2] ∧ L = [.row 3 1 r (unpS bs 1 80).length c ((unpS bs 1 80).map natV), .row 3 1 r2 (unpS bs 11 24).length c2 ((unpS bs 11 24).map natV)]) := by
  refine ZB Tryz.func91 rfl Tryz.ntmps91 rfl (Own.refl _) ?_
  simp only [ZU]
  refine Zc <| Za <| Zn (ZO ZZ rfl rfl (fun b2 => ?_))
  refine gA <| Zc <| Za <| Zn (ZO ZZ rfl rfl (fun b3 => ?_))
  refine gA <| Zc <| Zc <| Za <| gm rfl rfl <| gA <| ZI <| Y6 3 1 <| Z3 (ι := Nat × Option Nat × Nat) [(0, _), (2, _), (3, _)] [_] (fun q => q.1 ≤ 80) (fun q Fr0 => ((6, natV q.1) :: Fr0)) (fun q Fr0 => (.blk b3 [.slice (rowA q.2.1) (unpS bs 1 q.1).length q.2.2, .slice none 0 0] 26 :: .row 3 1 q.2.1 (unpS bs 1 q.1).length q.2.2 ((unpS bs 1 q.1).map natV) :: Fr0)) (fun q => 80 - q.1) (0, none, 0) (by simp) ⟨rfl, rfl, rfl, rfl, trivial⟩ ⟨[1, 0, 2], by decide, rfl⟩ ?_
  rintro ⟨k, r, c⟩ hk
  simp only at hk ⊢
  refine Zc <| Za <| gr rfl (Z5 rfl rfl) (Zv (fun h7 => ?_) (fun h7 => ?_))
  · have hk8 : k < 80 := by omega
    have hul := Zk9 bs 1 k
    have hb8 := getD_lt hbs (1 + k / 8)
    refine gA <| Zc <| Zj rfl <| Zx <| Zf <| Zc <| ZI <| Zc <| Za <| gm rfl rfl <| gas rfl rfl <| gA <| Zc <| Za <| gm rfl rfl <| gm rfl rfl <| gr rfl (by exact Vk (b := 8) rfl rfl (by omega) (by omega)) ?_
    refine gr rfl (by exact ZN (a := 1) rfl rfl (by omega)) ?_
    refine gr rfl (Yb hsl Tryz.underlying65 Yp rfl rfl (by omega) (by omega)) ?_
    refine gr rfl (Zh Tryz.underlying5 rfl rfl (Xe hsl (Zhw (by rw [hlen]; omega)))) ?_
    refine gm rfl rfl <| gr rfl (by exact Vj (b := 8) rfl rfl (by omega)) ?_
    refine gr rfl (Zm2 (b := k % 8) rfl rfl (by omega)) ?_
    refine gr rfl (Za3 (b := 1) rfl rfl (Nat.lt_of_le_of_lt (by rw [Nat.shiftRight_eq_div_pow]; exact Nat.div_le_self _ _) hb8) (by decide)) ?_
    refine gr rfl (Yr rfl rfl) (Zv (fun hq => ?_) (fun hq => ?_))
    · have hbit : VE bs 1 k = true := (Zdr _ _).1 (by exact_mod_cast hq)
      refine gA <| Zj rfl <| Za <| gr rfl (Zd rfl (YZ _)) <| gr rfl (Zh Tryz.underlying24 rfl rfl (by exact Zq 0 rfl rfl)) ?_
      refine gm rfl rfl <| Zn (ZX (sz := 1) rfl rfl (fun _ => Xh _) rfl rfl (fun b23 => ?_))
      refine Zn (YW 2 0 Tryz.underlying24 Xz rfl (by decide) rfl rfl rfl rfl rfl (by simp [Value.oneCell']) (by omega) (by omega) (fun _ => (by rfl)) (fun r24 c24 => ?_))
      refine gr rfl (Zd rfl (YZ _)) <| Zn (Ya 1 J9 rfl rfl rfl rfl rfl (by rfl) (by rfl) ?_)
      refine ZW <| ZM <| Zf <| Za <| gr rfl (by exact ZN (b := 1) rfl rfl (by omega)) ?_
      refine gm rfl rfl <| ZW <| Zf ?_
      have hu := unpS_t (b := bs) (off := 1) (k := k) hbit
      rw [show (unpS bs 1 k).length + 1 = (unpS bs 1 (k + 1)).length by rw [hu, List.length_append]; rfl, show (unpS bs 1 k).map natV ++ [natV k] = (unpS bs 1 (k + 1)).map natV by rw [hu, List.map_append]; rfl]
      exact Z1 ((k + 1, r24, c24)) ⟨by simp only; omega, by simp only; omega⟩ ⟨rfl, rfl, rfl, rfl, trivial⟩ ⟨[1, 2, 3], by decide, rfl⟩
    have hbit : VE bs 1 k = false := by
      rw [← Bool.not_eq_true]
      exact fun e => hq (by exact_mod_cast (Zdr _ _).2 e)
    refine gA <| Zk rfl <| Zx <| ZM <| Zf <| Za <| gr rfl (by exact ZN (b := 1) rfl rfl (by omega)) ?_
    refine gm rfl rfl <| ZW <| Zf ?_
    rw [← unpS_f (b := bs) (off := 1) (k := k) hbit]
    exact Z1 ((k + 1, r, c)) ⟨by simp only; omega, by simp only; omega⟩ ⟨rfl, rfl, rfl, rfl, trivial⟩ ⟨[0, 1, 2], by decide, rfl⟩
  refine gA <| Zc <| Zk rfl <| Z4 <| Zw <| Zw <| ZK <| Zf <| Zc <| Zc <| Za <| gm rfl rfl <| gA <| ZI <| Y6 3 1 ?_
  have hk9 : k = 80 := by omega
  subst hk9
  refine Z3 (ι := Nat × Option Nat × Nat) [(0, _), (2, _), (3, _)] [_, _] (fun q => q.1 ≤ 24) (fun q Fr0 => ((27, natV q.1) :: Fr0)) (fun q Fr0 => (.blk b3 [.slice (rowA r) (unpS bs 1 80).length c, .slice (rowA q.2.1) (unpS bs 11 q.1).length q.2.2] 26 :: .row 3 1 q.2.1 (unpS bs 11 q.1).length q.2.2 ((unpS bs 11 q.1).map natV) :: Fr0)) (fun q => 24 - q.1) (0, none, 0) (by simp) ⟨rfl, rfl, rfl, rfl, trivial⟩ ⟨[1, 0, 2, 3], by decide, rfl⟩ ?_
  rintro ⟨k, rC, cC⟩ hk
  simp only at hk ⊢
  refine Zc <| Za <| gr rfl (Z5 rfl rfl) (Zv (fun h28 => ?_) (fun h28 => ?_))
  · have hk8 : k < 24 := by omega
    have hul := Zk9 bs 11 k
    have hb8 := getD_lt hbs (11 + k / 8)
    refine gA <| Zc <| Zj rfl <| Zx <| Zf <| Zc <| ZI <| Zc <| Za <| gm rfl rfl <| gas rfl rfl <| gA <| Zc <| Za <| gm rfl rfl <| gm rfl rfl <| gr rfl (by exact Vk (b := 8) rfl rfl (by omega) (by omega)) ?_
    refine gr rfl (by exact ZN (a := 11) rfl rfl (by omega)) ?_
    refine gr rfl (Yb hsl Tryz.underlying65 Yp rfl rfl (by omega) (by omega)) ?_
    refine gr rfl (Zh Tryz.underlying5 rfl rfl (Xe hsl (Zhw (by rw [hlen]; omega)))) ?_
    refine gm rfl rfl <| gr rfl (by exact Vj (b := 8) rfl rfl (by omega)) ?_
    refine gr rfl (Zm2 (b := k % 8) rfl rfl (by omega)) ?_
    refine gr rfl (Za3 (b := 1) rfl rfl (Nat.lt_of_le_of_lt (by rw [Nat.shiftRight_eq_div_pow]; exact Nat.div_le_self _ _) hb8) (by decide)) ?_
    refine gr rfl (Yr rfl rfl) (Zv (fun hq => ?_) (fun hq => ?_))
    · have hbit : VE bs 11 k = true := (Zdr _ _).1 (by exact_mod_cast hq)
      refine gA <| Zj rfl <| Za <| gr rfl (Zd rfl (Y0 _)) <| gr rfl (Zh Tryz.underlying24 rfl rfl (by exact Zq 0 rfl rfl)) ?_
      refine gm rfl rfl <| Zn (ZX (sz := 1) rfl rfl (fun _ => Xh _) rfl rfl (fun b44 => ?_))
      refine Zn (YW 2 0 Tryz.underlying24 Xz rfl (by decide) rfl rfl rfl rfl rfl (by simp [Value.oneCell']) (by omega) (by omega) (fun _ => (by rfl)) (fun r45 c45 => ?_))
      refine gr rfl (Zd rfl (Y0 _)) <| Zn (Ya 1 J9 rfl rfl rfl rfl rfl (by rfl) (by rfl) ?_)
      refine ZW <| ZM <| Zf <| Za <| gr rfl (by exact ZN (b := 1) rfl rfl (by omega)) ?_
      refine gm rfl rfl <| ZW <| Zf ?_
      have hu := unpS_t (b := bs) (off := 11) (k := k) hbit
      rw [show (unpS bs 11 k).length + 1 = (unpS bs 11 (k + 1)).length by rw [hu, List.length_append]; rfl, show (unpS bs 11 k).map natV ++ [natV k] = (unpS bs 11 (k + 1)).map natV by rw [hu, List.map_append]; rfl]
      exact Z1 ((k + 1, r45, c45)) ⟨by simp only; omega, by simp only; omega⟩ ⟨rfl, rfl, rfl, rfl, trivial⟩ ⟨[1, 2, 3, 4], by decide, rfl⟩
    have hbit : VE bs 11 k = false := by
      rw [← Bool.not_eq_true]
      exact fun e => hq (by exact_mod_cast (Zdr _ _).2 e)
    refine gA <| Zk rfl <| Zx <| ZM <| Zf <| Za <| gr rfl (by exact ZN (b := 1) rfl rfl (by omega)) ?_
    refine gm rfl rfl <| ZW <| Zf ?_
    rw [← unpS_f (b := bs) (off := 11) (k := k) hbit]
    exact Z1 ((k + 1, rC, cC)) ⟨by simp only; omega, by simp only; omega⟩ ⟨rfl, rfl, rfl, rfl, trivial⟩ ⟨[0, 1, 2, 3], by decide, rfl⟩
  refine gA <| Zc <| Zk rfl <| Z4 <| Zw <| Zw <| ZK <| Zf <| Zc <| Za <| gr rfl (Zr Tryz.underlying26 rfl ZZ rfl (by exact ZH 0 (off := 0) (k := 2) rfl rfl) rfl) ?_
  refine Zn (ZA 3 ZZ rfl rfl rfl rfl rfl rfl (by rfl) ?_)
  refine gA <| Zt <| Za1 (.inl rfl) Tryz.results91 (YM Tryz.underlying26 rfl ZZ rfl (by rfl) (ZH 3 (off := 0) (k := 2) rfl rfl)) [2, 1] (by decide) ?_
  have hk9 : k = 24 := by omega
  subst hk9
  exact ⟨r, c, rC, cC, rfl, rfl⟩
theorem Zcm (s : Org) (bp bs : Nat) (w0 : World) (hP : PsIn s bp bs w0 []) (x : Pis) (ss cs : List Nat) (a1 a2 : Option Addr) (c1 c2 : Nat) (hs : ∀ i ∈ ss, i < s.ss.length) (hc : ∀ i ∈ cs, i < s.cs.length) (hsl : ss.length ≤ 1000) (hcl : cs.length ≤ 1000) (h1 : OldSl w0 [] a1 ss.length 1 (ss.map natV)) (h2 : OldSl w0 [] a2 cs.length 1 (cs.map natV)) : Sp Tryz.prog 53 [.pointer (some ⟨bp, 0, none⟩), Pis.val x, .agg #[.slice a1 ss.length c1, .slice a2 cs.length c2]] w0 [] (fun v L => ∃ (r1 : Option Nat) (d1 : Nat) (r3 : Option Nat) (d3 : Nat) (r2 : Option Nat) (d2 : Nat) (r4 : Option Nat) (d4 : Nat), v = .tuple #[.agg #[.slice (rowA r1) (ss.filter (Yu s x)).length d1, .slice (rowA r3) (cs.filter (Yw s x)).length d3], .agg #[.slice (rowA r2) (ss.filter (Xm (Yu s x))).length d2, .slice (rowA r4) (cs.filter (Xm (Yw s x))).length d4]] ∧ L = [.row 3 1 r1 (ss.filter (Yu s x)).length d1 ((ss.filter (Yu s x)).map natV), .row 3 1 r3 (cs.filter (Yw s x)).length d3 ((cs.filter (Yw s x)).map natV), .row 3 1 r2 (ss.filter (Xm (Yu s x))).length d2 ((ss.filter (Xm (Yu s x))).map natV), .row 3 1 r4 (cs.filter (Xm (Yw s x))).length d4 ((cs.filter (Xm (Yw s x))).map natV)]) := by
  have hp := hP.p
  have hp2 := hP.sp
  have hnd := hP.nd
  have hns := hP.ns
  have hnc := hP.nc
  refine ZB Tryz.func53 rfl Tryz.ntmps53 rfl (Own.refl _) ?_
  simp only [ZU]
  refine Zc <| Za <| Zn (Z7 rfl rfl rfl (fun b4 => ?_))
  refine Zn (Z7 rfl rfl rfl (fun b5 => ?_))
  refine Zn (ZO ZZ rfl rfl (fun b6 => ?_))
  refine Zn (ZO ZZ rfl rfl (fun b7 => ?_))
  refine gA <| Zc <| Zc <| Za <| gr rfl (Zd rfl (YZ _)) <| gr rfl (Zh Tryz.underlying24 rfl rfl (by exact Zq 2 rfl rfl)) ?_
  refine gr rfl (ZG Tryz.underlying24 rfl) <| gm rfl rfl <| gA <| ZI <| Y6 3 1 <| Y6 3 1 <| Z3 (ι := Nat × (Option Nat × Nat) × (Option Nat × Nat)) [(0, _), (4, _), (5, _), (6, _), (7, _), (13, _), (14, _)] [_, _] (fun q => q.1 ≤ ss.length) (fun q Fr0 => ((15, natV q.1) :: Fr0)) (fun q Fr0 => (.blk b6 [.slice (rowA q.2.1.1) ((ss.take q.1).filter (Yu s x)).length q.2.1.2, .slice none 0 0] 26 :: .blk b7 [.slice (rowA q.2.2.1) ((ss.take q.1).filter (Xm (Yu s x))).length q.2.2.2, .slice none 0 0] 26 :: .row 3 1 q.2.1.1 ((ss.take q.1).filter (Yu s x)).length q.2.1.2 (((ss.take q.1).filter (Yu s x)).map natV) :: .row 3 1 q.2.2.1 ((ss.take q.1).filter (Xm (Yu s x))).length q.2.2.2 (((ss.take q.1).filter (Xm (Yu s x))).map natV) :: Fr0)) (fun q => ss.length - q.1) (0, (none, 0), (none, 0)) (Nat.zero_le _) ⟨rfl, rfl, rfl, rfl, rfl, rfl, rfl, rfl, trivial⟩ ⟨[3, 2, 1, 0, 4, 5], by decide, rfl⟩ ?_
  rintro ⟨k, ⟨r1, d1⟩, ⟨r2, d2⟩⟩ hk
  simp only at hk ⊢
  refine Zc <| Za <| gr rfl (Z5 rfl rfl) (Zv (fun h16 => ?_) (fun h16 => ?_))
  · obtain ⟨i, hx⟩ := get_some (show k < ss.length by omega)
    have hi9 := hs i (List.mem_of_getElem? hx)
    obtain ⟨t, hti⟩ := get_some (show i < s.ss.length by omega)
    have hsce := Zot (x := x) hti
    have hfl1 := Zds (l := ss) k (Yu s x)
    have hfl2 := Zds (l := ss) k (Xm (Yu s x))
    refine gA <| Zc <| Zj rfl <| Zx <| Zf <| Zc <| ZI <| Zc <| Za <| gr rfl (Yb h1 Tryz.underlying24 Xz rfl rfl (by omega) (by omega)) ?_
    refine gr rfl (Zh Tryz.underlying3 rfl rfl (Xe h1 (Wu hx))) <| gas rfl rfl <| gA <| Zc <| ZV [0, 1, 2, 3, 4, 5] true 16 rfl <| Zb 0 rfl rfl ⟨[0, 1, 2, 3, 4, 5], by decide, rfl⟩ (Ze (Zd rfl (Wf _))) ?_
    refine Zb 1 rfl rfl ⟨[0, 1, 2, 3, 4, 5], by decide, rfl⟩ (Ze (Zh Tryz.underlying3 rfl rfl (by exact Zq 5 rfl rfl))) ?_
    refine Zb 2 rfl rfl ⟨[0, 1, 2, 3, 4, 5], by decide, rfl⟩ (Ze (Yr rfl rfl)) (Zv (fun hd1 => ?_) (fun hd1 => ?_))
    · refine Zb 3 rfl rfl ⟨[0, 1, 2, 3, 4, 5], by decide, rfl⟩ (Ze (Zi rfl)) ?_
      refine ZT 4 rfl rfl rfl rfl rfl ⟨[0, 1, 2, 3, 4, 5], by decide, rfl⟩ ?_
      refine ZT 5 rfl rfl rfl rfl rfl ⟨[0, 1, 2, 3, 4, 5], by decide, rfl⟩ ?_
      refine ZT 6 rfl rfl rfl rfl rfl ⟨[0, 1, 2, 3, 4, 5], by decide, rfl⟩ ?_
      refine ZT 7 rfl rfl rfl rfl rfl ⟨[0, 1, 2, 3, 4, 5], by decide, rfl⟩ ?_
      refine ZT 8 rfl rfl rfl rfl rfl ⟨[0, 1, 2, 3, 4, 5], by decide, rfl⟩ ?_
      refine ZT 9 rfl rfl rfl rfl rfl ⟨[0, 1, 2, 3, 4, 5], by decide, rfl⟩ ?_
      refine ZT 10 rfl rfl rfl rfl rfl ⟨[0, 1, 2, 3, 4, 5], by decide, rfl⟩ ?_
      refine ZT 11 rfl rfl rfl rfl rfl ⟨[0, 1, 2, 3, 4, 5], by decide, rfl⟩ ?_
      refine ZT 12 rfl rfl rfl rfl rfl ⟨[0, 1, 2, 3, 4, 5], by decide, rfl⟩ ?_
      refine ZT 13 rfl rfl rfl rfl rfl ⟨[0, 1, 2, 3, 4, 5], by decide, rfl⟩ ?_
      refine ZT 14 rfl rfl rfl rfl rfl ⟨[0, 1, 2, 3, 4, 5], by decide, rfl⟩ ?_
      refine ZT 15 rfl rfl rfl rfl rfl ⟨[0, 1, 2, 3, 4, 5], by decide, rfl⟩ ?_
      refine Zb 16 rfl rfl ⟨[0, 1, 2, 3, 4, 5], by decide, rfl⟩ (Ze (ZE rfl rfl)) ?_
      refine ZR (.inr ⟨[0, 1, 2, 3, 4, 5], by decide, rfl⟩) ?_
      refine Zf <| Zj rfl ?_
      have hsc : Yu s x i = true := by rw [hsce]; (rw [decide_eq_true hd1]; rfl)
      refine Za <| gr rfl (Zd rfl (YZ _)) <| gr rfl (Zh Tryz.underlying24 rfl rfl (by exact Zq 0 rfl rfl)) ?_
      refine gm rfl rfl <| Zn (ZX (sz := 1) rfl rfl (fun _ => Xh _) rfl rfl (fun b39 => ?_))
      refine Zn (YW 3 0 Tryz.underlying24 Xz rfl (by decide) rfl rfl rfl rfl rfl (by simp [Value.oneCell']) (by omega) (by omega) (fun _ => (by rfl)) (fun r40 c40 => ?_))
      refine gr rfl (Zd rfl (YZ _)) <| Zn (Ya 1 J9 rfl rfl rfl rfl rfl (by rfl) (by rfl) ?_)
      refine ZW <| ZM <| Zf <| Za <| gr rfl (by exact ZN (b := 1) rfl rfl (by omega)) ?_
      refine gm rfl rfl <| ZW <| Zf ?_
      have ht := Zg9 (k := k) (f := Yu s x) hx (by exact hsc)
      have hf := Zha (k := k) (f := Xm (Yu s x)) hx (by simp [Xm, hsc])
      rw [show ((ss.take k).filter (Yu s x)).length + 1 = ((ss.take (k + 1)).filter (Yu s x)).length by rw [ht, List.length_append]; rfl, show ((ss.take k).filter (Yu s x)).map natV ++ [natV i] = ((ss.take (k + 1)).filter (Yu s x)).map natV by rw [ht, List.map_append]; rfl, ← hf]
      exact Z1 ((k + 1, (r40, c40), (r2, d2))) ⟨by simp only; omega, by simp only; omega⟩ ⟨rfl, rfl, rfl, rfl, rfl, rfl, rfl, rfl, trivial⟩ ⟨[1, 2, 3, 4, 5, 6], by decide, rfl⟩
    refine Zb 3 rfl rfl ⟨[0, 1, 2, 3, 4, 5], by decide, rfl⟩ (Ze (Zi rfl)) ?_
    refine Zm 4 rfl rfl rfl rfl rfl ⟨[0, 1, 2, 3, 4, 5], by decide, rfl⟩ (Ze (Zi rfl)) ?_
    refine Zm 5 rfl rfl rfl rfl rfl ⟨[0, 1, 2, 3, 4, 5], by decide, rfl⟩ (Ze (ZL rfl)) ?_
    refine Zm 6 rfl rfl rfl rfl rfl ⟨[0, 1, 2, 3, 4, 5], by decide, rfl⟩ (Ze (Zd rfl (Jd _))) ?_
    refine Zm 7 rfl rfl rfl rfl rfl ⟨[0, 1, 2, 3, 4, 5], by decide, rfl⟩ (Ze (Zd rfl (J0 _))) ?_
    refine Zm 8 rfl rfl rfl rfl rfl ⟨[0, 1, 2, 3, 4, 5], by decide, rfl⟩ (Ze (Zh Tryz.underlying42 rfl rfl (by exact Yf (by assumption) (by simp) rfl))) ?_
    refine Zm 9 rfl rfl rfl rfl rfl ⟨[0, 1, 2, 3, 4, 5], by decide, rfl⟩ (Ze (Zi rfl)) ?_
    refine Zm 10 rfl rfl rfl rfl rfl ⟨[0, 1, 2, 3, 4, 5], by decide, rfl⟩ (Ze (YK hP.t Tryz.underlying42 Zei rfl rfl (by omega) (by omega))) ?_
    refine Zm 11 rfl rfl rfl rfl rfl ⟨[0, 1, 2, 3, 4, 5], by decide, rfl⟩ (Ze (Zd rfl (Zdf _))) ?_
    refine Zm 12 rfl rfl rfl rfl rfl ⟨[0, 1, 2, 3, 4, 5], by decide, rfl⟩ (Ze (Zh Tryz.underlying3 rfl rfl (ld_slf hP.t (Zd3 St.cells 5 (fun _ => rfl) hti (j := 1) (by decide) rfl)))) ?_
    refine Zm 13 rfl rfl rfl rfl rfl ⟨[0, 1, 2, 3, 4, 5], by decide, rfl⟩ (Ze (Zd rfl (Wf _))) ?_
    refine Zm 14 rfl rfl rfl rfl rfl ⟨[0, 1, 2, 3, 4, 5], by decide, rfl⟩ (Ze (Zh Tryz.underlying3 rfl rfl (by exact Zq 5 rfl rfl))) ?_
    refine Zm 15 rfl rfl rfl rfl rfl ⟨[0, 1, 2, 3, 4, 5], by decide, rfl⟩ (Ze (Yr rfl rfl)) (Zv (fun hd2 => ?_) (fun hd2 => ?_))
    · refine Zb 16 rfl rfl ⟨[0, 1, 2, 3, 4, 5], by decide, rfl⟩ (Ze (Zo rfl rfl)) ?_
      refine ZR (.inr ⟨[0, 1, 2, 3, 4, 5], by decide, rfl⟩) ?_
      refine Zf <| Zj rfl ?_
      have hsc : Yu s x i = true := by rw [hsce]; (rw [decide_eq_true hd2, Bool.or_true])
      refine Za <| gr rfl (Zd rfl (YZ _)) <| gr rfl (Zh Tryz.underlying24 rfl rfl (by exact Zq 0 rfl rfl)) ?_
      refine gm rfl rfl <| Zn (ZX (sz := 1) rfl rfl (fun _ => Xh _) rfl rfl (fun b39 => ?_))
      refine Zn (YW 3 0 Tryz.underlying24 Xz rfl (by decide) rfl rfl rfl rfl rfl (by simp [Value.oneCell']) (by omega) (by omega) (fun _ => (by rfl)) (fun r40 c40 => ?_))
      refine gr rfl (Zd rfl (YZ _)) <| Zn (Ya 1 J9 rfl rfl rfl rfl rfl (by rfl) (by rfl) ?_)
      refine ZW <| ZM <| Zf <| Za <| gr rfl (by exact ZN (b := 1) rfl rfl (by omega)) ?_
      refine gm rfl rfl <| ZW <| Zf ?_
      have ht := Zg9 (k := k) (f := Yu s x) hx (by exact hsc)
      have hf := Zha (k := k) (f := Xm (Yu s x)) hx (by simp [Xm, hsc])
      rw [show ((ss.take k).filter (Yu s x)).length + 1 = ((ss.take (k + 1)).filter (Yu s x)).length by rw [ht, List.length_append]; rfl, show ((ss.take k).filter (Yu s x)).map natV ++ [natV i] = ((ss.take (k + 1)).filter (Yu s x)).map natV by rw [ht, List.map_append]; rfl, ← hf]
      exact Z1 ((k + 1, (r40, c40), (r2, d2))) ⟨by simp only; omega, by simp only; omega⟩ ⟨rfl, rfl, rfl, rfl, rfl, rfl, rfl, rfl, trivial⟩ ⟨[1, 2, 3, 4, 5, 6], by decide, rfl⟩
    refine Zb 16 rfl rfl ⟨[0, 1, 2, 3, 4, 5], by decide, rfl⟩ (Ze (Zo rfl rfl)) ?_
    refine ZR (.inr ⟨[0, 1, 2, 3, 4, 5], by decide, rfl⟩) ?_
    refine Zf <| Zk rfl ?_
    have hsc : Yu s x i = false := by rw [hsce]; rw [decide_eq_false hd1, decide_eq_false hd2]; rfl
    refine Za <| gr rfl (Zd rfl (YZ _)) <| gr rfl (Zh Tryz.underlying24 rfl rfl (by exact Zq 1 rfl rfl)) ?_
    refine gm rfl rfl <| Zn (ZX (sz := 1) rfl rfl (fun _ => Xh _) rfl rfl (fun b45 => ?_))
    refine Zn (YW 4 0 Tryz.underlying24 Xz rfl (by decide) rfl rfl rfl rfl rfl (by simp [Value.oneCell']) (by omega) (by omega) (fun _ => (by rfl)) (fun r46 c46 => ?_))
    refine gr rfl (Zd rfl (YZ _)) <| Zn (Ya 2 J9 rfl rfl rfl rfl rfl (by rfl) (by rfl) ?_)
    refine ZW <| ZM <| Zf <| Za <| gr rfl (by exact ZN (b := 1) rfl rfl (by omega)) ?_
    refine gm rfl rfl <| ZW <| Zf ?_
    have ht := Zg9 (k := k) (f := Xm (Yu s x)) hx (by simp [Xm, hsc])
    have hf := Zha (k := k) (f := Yu s x) hx (by exact hsc)
    rw [show ((ss.take k).filter (Xm (Yu s x))).length + 1 = ((ss.take (k + 1)).filter (Xm (Yu s x))).length by rw [ht, List.length_append]; rfl, show ((ss.take k).filter (Xm (Yu s x))).map natV ++ [natV i] = ((ss.take (k + 1)).filter (Xm (Yu s x))).map natV by rw [ht, List.map_append]; rfl, ← hf]
    exact Z1 ((k + 1, (r1, d1), (r46, c46))) ⟨by simp only; omega, by simp only; omega⟩ ⟨rfl, rfl, rfl, rfl, rfl, rfl, rfl, rfl, trivial⟩ ⟨[1, 2, 3, 4, 5, 6], by decide, rfl⟩
  refine gA <| Zc <| Zk rfl <| Z4 <| Zw <| Zw <| ZK <| Zf <| Zc <| Zc ?_
  rw [Zdt (k := k) (Yu s x) (by omega), Zdt (k := k) (Xm (Yu s x)) (by omega)]
  refine Za <| gr rfl (Zd rfl (Y0 _)) <| gr rfl (Zh Tryz.underlying24 rfl rfl (by exact Zq 4 rfl rfl)) ?_
  refine gr rfl (ZG Tryz.underlying24 rfl) <| gm rfl rfl <| gA <| ZI <| Y6 3 1 <| Y6 3 1 <| Z3 (ι := Nat × (Option Nat × Nat) × (Option Nat × Nat)) [(0, _), (4, _), (6, _), (7, _), (50, _), (51, _)] [_, _, _, _] (fun q => q.1 ≤ cs.length) (fun q Fr0 => ((52, natV q.1) :: Fr0)) (fun q Fr0 => (.blk b6 [.slice (rowA r1) (ss.filter (Yu s x)).length d1, .slice (rowA q.2.1.1) ((cs.take q.1).filter (Yw s x)).length q.2.1.2] 26 :: .blk b7 [.slice (rowA r2) (ss.filter (Xm (Yu s x))).length d2, .slice (rowA q.2.2.1) ((cs.take q.1).filter (Xm (Yw s x))).length q.2.2.2] 26 :: .row 3 1 q.2.1.1 ((cs.take q.1).filter (Yw s x)).length q.2.1.2 (((cs.take q.1).filter (Yw s x)).map natV) :: .row 3 1 q.2.2.1 ((cs.take q.1).filter (Xm (Yw s x))).length q.2.2.2 (((cs.take q.1).filter (Xm (Yw s x))).map natV) :: Fr0)) (fun q => cs.length - q.1) (0, (none, 0), (none, 0)) (Nat.zero_le _) ⟨rfl, rfl, rfl, rfl, rfl, rfl, rfl, trivial⟩ ⟨[2, 3, 1, 0, 4, 5, 6, 7], by decide, rfl⟩ ?_
  rintro ⟨k, ⟨r3, d3⟩, ⟨r4, d4⟩⟩ hk
  simp only at hk ⊢
  refine Zc <| Za <| gr rfl (Z5 rfl rfl) (Zv (fun h53 => ?_) (fun h53 => ?_))
  · obtain ⟨i, hx⟩ := get_some (show k < cs.length by omega)
    have hi9 := hc i (List.mem_of_getElem? hx)
    obtain ⟨t, hti⟩ := get_some (show i < s.cs.length by omega)
    have hsce := Zou (x := x) hti
    have hfl1 := Zds (l := cs) k (Yw s x)
    have hfl2 := Zds (l := cs) k (Xm (Yw s x))
    refine gA <| Zc <| Zj rfl <| Zx <| Zf <| Zc <| ZI <| Zc <| Za <| gr rfl (Yb h2 Tryz.underlying24 Xz rfl rfl (by omega) (by omega)) ?_
    refine gr rfl (Zh Tryz.underlying3 rfl rfl (Xe h2 (Wu hx))) <| gas rfl rfl <| gA <| Zc <| ZV [0, 1, 2, 3, 4, 5, 6, 7] true 16 rfl <| Zb 0 rfl rfl ⟨[0, 1, 2, 3, 4, 5, 6, 7], by decide, rfl⟩ (Ze (Zd rfl (Wf _))) ?_
    refine Zb 1 rfl rfl ⟨[0, 1, 2, 3, 4, 5, 6, 7], by decide, rfl⟩ (Ze (Zh Tryz.underlying3 rfl rfl (by exact Zq 7 rfl rfl))) ?_
    refine Zb 2 rfl rfl ⟨[0, 1, 2, 3, 4, 5, 6, 7], by decide, rfl⟩ (Ze (Yr rfl rfl)) (Zv (fun hd1 => ?_) (fun hd1 => ?_))
    · refine Zb 3 rfl rfl ⟨[0, 1, 2, 3, 4, 5, 6, 7], by decide, rfl⟩ (Ze (Zi rfl)) ?_
      refine ZT 4 rfl rfl rfl rfl rfl ⟨[0, 1, 2, 3, 4, 5, 6, 7], by decide, rfl⟩ ?_
      refine ZT 5 rfl rfl rfl rfl rfl ⟨[0, 1, 2, 3, 4, 5, 6, 7], by decide, rfl⟩ ?_
      refine ZT 6 rfl rfl rfl rfl rfl ⟨[0, 1, 2, 3, 4, 5, 6, 7], by decide, rfl⟩ ?_
      refine ZT 7 rfl rfl rfl rfl rfl ⟨[0, 1, 2, 3, 4, 5, 6, 7], by decide, rfl⟩ ?_
      refine ZT 8 rfl rfl rfl rfl rfl ⟨[0, 1, 2, 3, 4, 5, 6, 7], by decide, rfl⟩ ?_
      refine ZT 9 rfl rfl rfl rfl rfl ⟨[0, 1, 2, 3, 4, 5, 6, 7], by decide, rfl⟩ ?_
      refine ZT 10 rfl rfl rfl rfl rfl ⟨[0, 1, 2, 3, 4, 5, 6, 7], by decide, rfl⟩ ?_
      refine ZT 11 rfl rfl rfl rfl rfl ⟨[0, 1, 2, 3, 4, 5, 6, 7], by decide, rfl⟩ ?_
      refine ZT 12 rfl rfl rfl rfl rfl ⟨[0, 1, 2, 3, 4, 5, 6, 7], by decide, rfl⟩ ?_
      refine ZT 13 rfl rfl rfl rfl rfl ⟨[0, 1, 2, 3, 4, 5, 6, 7], by decide, rfl⟩ ?_
      refine ZT 14 rfl rfl rfl rfl rfl ⟨[0, 1, 2, 3, 4, 5, 6, 7], by decide, rfl⟩ ?_
      refine ZT 15 rfl rfl rfl rfl rfl ⟨[0, 1, 2, 3, 4, 5, 6, 7], by decide, rfl⟩ ?_
      refine Zb 16 rfl rfl ⟨[0, 1, 2, 3, 4, 5, 6, 7], by decide, rfl⟩ (Ze (ZE rfl rfl)) ?_
      refine ZR (.inr ⟨[0, 1, 2, 3, 4, 5, 6, 7], by decide, rfl⟩) ?_
      refine Zf <| Zj rfl ?_
      have hsc : Yw s x i = true := by rw [hsce]; (rw [decide_eq_true hd1]; rfl)
      refine Za <| gr rfl (Zd rfl (Y0 _)) <| gr rfl (Zh Tryz.underlying24 rfl rfl (by exact Zq 0 rfl rfl)) ?_
      refine gm rfl rfl <| Zn (ZX (sz := 1) rfl rfl (fun _ => Xh _) rfl rfl (fun b76 => ?_))
      refine Zn (YW 3 0 Tryz.underlying24 Xz rfl (by decide) rfl rfl rfl rfl rfl (by simp [Value.oneCell']) (by omega) (by omega) (fun _ => (by rfl)) (fun r77 c77 => ?_))
      refine gr rfl (Zd rfl (Y0 _)) <| Zn (Ya 1 J9 rfl rfl rfl rfl rfl (by rfl) (by rfl) ?_)
      refine ZW <| ZM <| Zf <| Za <| gr rfl (by exact ZN (b := 1) rfl rfl (by omega)) ?_
      refine gm rfl rfl <| ZW <| Zf ?_
      have ht := Zg9 (k := k) (f := Yw s x) hx (by exact hsc)
      have hf := Zha (k := k) (f := Xm (Yw s x)) hx (by simp [Xm, hsc])
      rw [show ((cs.take k).filter (Yw s x)).length + 1 = ((cs.take (k + 1)).filter (Yw s x)).length by rw [ht, List.length_append]; rfl, show ((cs.take k).filter (Yw s x)).map natV ++ [natV i] = ((cs.take (k + 1)).filter (Yw s x)).map natV by rw [ht, List.map_append]; rfl, ← hf]
      exact Z1 ((k + 1, (r77, c77), (r4, d4))) ⟨by simp only; omega, by simp only; omega⟩ ⟨rfl, rfl, rfl, rfl, rfl, rfl, rfl, trivial⟩ ⟨[1, 2, 3, 4, 5, 6, 7, 8], by decide, rfl⟩
    refine Zb 3 rfl rfl ⟨[0, 1, 2, 3, 4, 5, 6, 7], by decide, rfl⟩ (Ze (Zi rfl)) ?_
    refine Zm 4 rfl rfl rfl rfl rfl ⟨[0, 1, 2, 3, 4, 5, 6, 7], by decide, rfl⟩ (Ze (Zi rfl)) ?_
    refine Zm 5 rfl rfl rfl rfl rfl ⟨[0, 1, 2, 3, 4, 5, 6, 7], by decide, rfl⟩ (Ze (ZL rfl)) ?_
    refine Zm 6 rfl rfl rfl rfl rfl ⟨[0, 1, 2, 3, 4, 5, 6, 7], by decide, rfl⟩ (Ze (Zd rfl (Jd _))) ?_
    refine Zm 7 rfl rfl rfl rfl rfl ⟨[0, 1, 2, 3, 4, 5, 6, 7], by decide, rfl⟩ (Ze (Zd rfl (J1 _))) ?_
    refine Zm 8 rfl rfl rfl rfl rfl ⟨[0, 1, 2, 3, 4, 5, 6, 7], by decide, rfl⟩ (Ze (Zh Tryz.underlying43 rfl rfl (by exact Yf (by assumption) (by simp) rfl))) ?_
    refine Zm 9 rfl rfl rfl rfl rfl ⟨[0, 1, 2, 3, 4, 5, 6, 7], by decide, rfl⟩ (Ze (Zi rfl)) ?_
    refine Zm 10 rfl rfl rfl rfl rfl ⟨[0, 1, 2, 3, 4, 5, 6, 7], by decide, rfl⟩ (Ze (YK hP.c Tryz.underlying43 Zah rfl rfl (by omega) (by omega))) ?_
    refine Zm 11 rfl rfl rfl rfl rfl ⟨[0, 1, 2, 3, 4, 5, 6, 7], by decide, rfl⟩ (Ze (Zd rfl (Zem _))) ?_
    refine Zm 12 rfl rfl rfl rfl rfl ⟨[0, 1, 2, 3, 4, 5, 6, 7], by decide, rfl⟩ (Ze (Zh Tryz.underlying3 rfl rfl (ld_slf hP.c (Zd3 Cp.cells 6 (fun _ => rfl) hti (j := 1) (by decide) rfl)))) ?_
    refine Zm 13 rfl rfl rfl rfl rfl ⟨[0, 1, 2, 3, 4, 5, 6, 7], by decide, rfl⟩ (Ze (Zd rfl (Wf _))) ?_
    refine Zm 14 rfl rfl rfl rfl rfl ⟨[0, 1, 2, 3, 4, 5, 6, 7], by decide, rfl⟩ (Ze (Zh Tryz.underlying3 rfl rfl (by exact Zq 7 rfl rfl))) ?_
    refine Zm 15 rfl rfl rfl rfl rfl ⟨[0, 1, 2, 3, 4, 5, 6, 7], by decide, rfl⟩ (Ze (Yr rfl rfl)) (Zv (fun hd2 => ?_) (fun hd2 => ?_))
    · refine Zb 16 rfl rfl ⟨[0, 1, 2, 3, 4, 5, 6, 7], by decide, rfl⟩ (Ze (Zo rfl rfl)) ?_
      refine ZR (.inr ⟨[0, 1, 2, 3, 4, 5, 6, 7], by decide, rfl⟩) ?_
      refine Zf <| Zj rfl ?_
      have hsc : Yw s x i = true := by rw [hsce]; (rw [decide_eq_true hd2, Bool.or_true])
      refine Za <| gr rfl (Zd rfl (Y0 _)) <| gr rfl (Zh Tryz.underlying24 rfl rfl (by exact Zq 0 rfl rfl)) ?_
      refine gm rfl rfl <| Zn (ZX (sz := 1) rfl rfl (fun _ => Xh _) rfl rfl (fun b76 => ?_))
      refine Zn (YW 3 0 Tryz.underlying24 Xz rfl (by decide) rfl rfl rfl rfl rfl (by simp [Value.oneCell']) (by omega) (by omega) (fun _ => (by rfl)) (fun r77 c77 => ?_))
      refine gr rfl (Zd rfl (Y0 _)) <| Zn (Ya 1 J9 rfl rfl rfl rfl rfl (by rfl) (by rfl) ?_)
      refine ZW <| ZM <| Zf <| Za <| gr rfl (by exact ZN (b := 1) rfl rfl (by omega)) ?_
      refine gm rfl rfl <| ZW <| Zf ?_
      have ht := Zg9 (k := k) (f := Yw s x) hx (by exact hsc)
      have hf := Zha (k := k) (f := Xm (Yw s x)) hx (by simp [Xm, hsc])
      rw [show ((cs.take k).filter (Yw s x)).length + 1 = ((cs.take (k + 1)).filter (Yw s x)).length by rw [ht, List.length_append]; rfl, show ((cs.take k).filter (Yw s x)).map natV ++ [natV i] = ((cs.take (k + 1)).filter (Yw s x)).map natV by rw [ht, List.map_append]; rfl, ← hf]
      exact Z1 ((k + 1, (r77, c77), (r4, d4))) ⟨by simp only; omega, by simp only; omega⟩ ⟨rfl, rfl, rfl, rfl, rfl, rfl, rfl, trivial⟩ ⟨[1, 2, 3, 4, 5, 6, 7, 8], by decide, rfl⟩
    refine Zb 16 rfl rfl ⟨[0, 1, 2, 3, 4, 5, 6, 7], by decide, rfl⟩ (Ze (Zo rfl rfl)) ?_
    refine ZR (.inr ⟨[0, 1, 2, 3, 4, 5, 6, 7], by decide, rfl⟩) ?_
    refine Zf <| Zk rfl ?_
    have hsc : Yw s x i = false := by rw [hsce]; rw [decide_eq_false hd1, decide_eq_false hd2]; rfl
    refine Za <| gr rfl (Zd rfl (Y0 _)) <| gr rfl (Zh Tryz.underlying24 rfl rfl (by exact Zq 1 rfl rfl)) ?_
    refine gm rfl rfl <| Zn (ZX (sz := 1) rfl rfl (fun _ => Xh _) rfl rfl (fun b82 => ?_))
    refine Zn (YW 4 0 Tryz.underlying24 Xz rfl (by decide) rfl rfl rfl rfl rfl (by simp [Value.oneCell']) (by omega) (by omega) (fun _ => (by rfl)) (fun r83 c83 => ?_))
    refine gr rfl (Zd rfl (Y0 _)) <| Zn (Ya 2 J9 rfl rfl rfl rfl rfl (by rfl) (by rfl) ?_)
    refine ZW <| ZM <| Zf <| Za <| gr rfl (by exact ZN (b := 1) rfl rfl (by omega)) ?_
    refine gm rfl rfl <| ZW <| Zf ?_
    have ht := Zg9 (k := k) (f := Xm (Yw s x)) hx (by simp [Xm, hsc])
    have hf := Zha (k := k) (f := Yw s x) hx (by exact hsc)
    rw [show ((cs.take k).filter (Xm (Yw s x))).length + 1 = ((cs.take (k + 1)).filter (Xm (Yw s x))).length by rw [ht, List.length_append]; rfl, show ((cs.take k).filter (Xm (Yw s x))).map natV ++ [natV i] = ((cs.take (k + 1)).filter (Xm (Yw s x))).map natV by rw [ht, List.map_append]; rfl, ← hf]
    exact Z1 ((k + 1, (r3, d3), (r83, c83))) ⟨by simp only; omega, by simp only; omega⟩ ⟨rfl, rfl, rfl, rfl, rfl, rfl, rfl, trivial⟩ ⟨[1, 2, 3, 4, 5, 6, 7, 8], by decide, rfl⟩
  refine gA <| Zc <| Zk rfl <| Z4 <| Zw <| Zw <| ZK <| Zf <| Zc ?_
  rw [Zdt (k := k) (Yw s x) (by omega), Zdt (k := k) (Xm (Yw s x)) (by omega)]
  refine ZV [0, 1, 2, 3, 4, 5, 6, 7] false 3 rfl <| Zb 0 rfl rfl ⟨[0, 1, 2, 3, 4, 5, 6, 7], by decide, rfl⟩ (Ze (Zr Tryz.underlying26 rfl ZZ rfl (by exact ZH 0 (off := 0) (k := 2) rfl rfl) rfl)) ?_
  refine Zb 1 rfl rfl ⟨[0, 1, 2, 3, 4, 5, 6, 7], by decide, rfl⟩ (Ze (Zr Tryz.underlying26 rfl ZZ rfl (by exact ZH 1 (off := 0) (k := 2) rfl rfl) rfl)) ?_
  refine ZF 2 rfl (.inr ⟨[0, 1, 2, 3, 4, 5, 6, 7], by decide, rfl⟩) (ZA 0 ZZ rfl rfl rfl rfl rfl rfl (by rfl) ?_)
  refine ZF 3 rfl (.inr ⟨[0, 1, 2, 3, 4, 5, 6, 7], by decide, rfl⟩) (ZA 1 ZZ rfl rfl rfl rfl rfl rfl (by rfl) ?_)
  refine ZR (.inl (by kernel_rfl)) ?_
  refine Zf <| Zt <| YH (.inl rfl) Tryz.results53 (YM Tryz.underlying26 rfl ZZ rfl (by rfl) (ZH 0 (off := 0) (k := 2) rfl rfl)) (YM Tryz.underlying26 rfl ZZ rfl (by rfl) (ZH 1 (off := 0) (k := 2) rfl rfl)) [4, 2, 5, 3] (by decide) ?_
  exact ⟨r1, d1, r3, d3, r2, d2, r4, d4, rfl, rfl⟩
namespace Ip
theorem Wk {dm : List Deferred} {P : Program} {n : Nat} {e : Env} {w0 : World} {S : List Nat} {l : List HL} {dst : Option Tmp} {ty : TypeId} {pos : String} {aft : Array Edge} {gd : Option (Nat × Bool)} {x : Operand} {t : TypeId} {v : Value} (hx : e.ev x = some (.iface t v)) : Rd P dm n e w0 S l ⟨dst, .nilCheck x, ty, pos, aft, gd⟩ (.iface t v) :=
  fun a w hs ho => by simp [execOp, hs.ev hx]
theorem q_keys (q : SS) (V : Ye) (n : Nat) (hq : q.Ok V n) (S : List Nat) (w0 : World) (hown : Own w0 S w0 q.hl) : Sp Tryz.prog 181 [.pointer (some ⟨q.bs, 0, none⟩)] w0 S (fun v L => ∃ (r : Option Nat) (k c : Nat) (zs : List Value), v = .tuple #[.slice (rowA r) k c, .int .i64 0] ∧ L = .row 3 1 r k c zs :: q.hl) := by
  refine (Sp.frame (l1 := q.blk :: .obj q.bm (Xo HV q.m q.nb) :: q.fl) (l2 := q.T) hown (fun ho => Keys_ok q.f q.bs q.bf q.rb q.cb q.rp q.cp q.id q.bm q.num q.fb q.m q.nb q.T V hq.st _ w0 ho)).monoS ?_
  rintro v L ⟨L1, ⟨r, c, rfl, rfl⟩, rfl⟩
  exact ⟨_, ZJ (A := [_, _, _, _, _, _]) (B := [_, _, _, _, _, _]) (T := q.T) [5, 0, 1, 2, 3, 4] 6 (by decide) (by decide) rfl rfl, r, _, c, _, rfl, rfl⟩
theorem q_get (q : SS) (V : Ye) (n : Nat) (hq : q.Ok V n) (S : List Nat) (w0 : World) (hown : Own w0 S w0 q.hl) (key : Int) : Sp Tryz.prog 180 [.pointer (some ⟨q.bs, 0, none⟩), .int .i64 key] w0 S (fun v L => ∃ (r : Option Nat) (c : Nat), v = .tuple #[.slice (rowA r) (Wa key V).1.length c, .int .i64 (Wa key V).2] ∧ L = .row 5 1 r (Wa key V).1.length c ((Wa key V).1.map u8V) :: q.hl) := GetM_ok q.f q.bs q.bf q.rb q.cb q.rp q.cp q.id q.bm q.num q.fb q.m q.nb q.T V hq.st S w0 hown key
def bytesV (V : Ye) (x : Pis) : List Nat := match V (keyN x) with | some p => p.2 | none => []
theorem SS.Ok.bytes {q : SS} {V : Ye} {n : Nat} (h : q.Ok V n) {k m : Nat} {bs : List Nat} (hv : V k = some (m, bs)) : bs.length ≤ 16 ∧ ∀ z ∈ bs, z < 256 := by
  obtain ⟨⟨y, hy, _, _, rfl⟩, _⟩ := h.st.si.fi.topS k m bs hv
  have := hy.ok h.st.si.fi.lt h.st.si.fi.nb
  exact ⟨this.len, this.val⟩
theorem SS.Ok.bytesV {q : SS} {V : Ye} {n : Nat} (h : q.Ok V n) (x : Pis) : (bytesV V x).length ≤ 16 ∧ ∀ z ∈ bytesV V x, z < 256 := by
  unfold Ip.bytesV
  cases hv : V (keyN x) with
  | none => exact ⟨by simp, by simp⟩
  | some p => exact h.bytes (m := p.1) (bs := p.2) hv
theorem sget_key {nd : Nat} (hn : nd ≤ 6) {x : Pis} (hx : pnE nd x = 0) (V : Ye) : Wa (kyP x) V = (bytesV V x, 0) := by
  obtain ⟨h1, h2, h3⟩ := Y3 hn hx
  unfold Wa Ip.bytesV
  rw [if_neg (by omega), show (kyP x).toNat = keyN x from rfl]
  cases V (keyN x) <;> rfl
theorem Ziz {V : Ye} {x : Pis} : Xc V x = if (bytesV V x).length = 14 then some (unpS (bytesV V x) 1 80, unpS (bytesV V x) 11 24) else none := by
  unfold Xc Ip.bytesV
  cases V (keyN x) with
  | none => rfl
  | some p => rfl
def kD (V : Ye) (x : Pis) : Rg := (Xc V x).getD ([], [])
theorem Zhb {n : Nat} {f : Nat → Bool} {kept now : List Nat} (hk : kept.Pairwise (· < ·)) (hw : now.Pairwise (· < ·)) (hkn : ∀ i ∈ kept, i < n) (hwn : ∀ i ∈ now, i < n) : srt (now.filter (Xm f) ++ kept.filter f) = Zfn n f kept now :=
  press_is hkn hwn (hk.imp fun h => Nat.ne_of_lt h) (hw.imp fun h => Nat.ne_of_lt h) (JO _) (Zao _)
end Ip
open Ip
theorem Zhc (f : Fl) (hf : f.Ok) (bs bf : Nat) (rb : Option Nat) (cb : Nat) (rp : Option Nat) (cp : Nat) (id bm num : Nat) (free : Int) (w0 : World) (hs : Cells w0 ⟨bs, 0, none⟩ [.bool true, .pointer (some ⟨bf, 0, none⟩), natV id, .map (some bm), .int .u32 (num : Nat), .int .i64 free]) (hc : Cells w0 ⟨bf, 0, none⟩ (f.cells rb cb rp cp)) (hf2 : XO f id ≠ 0) : Sp Tryz.prog 181 [.pointer (some ⟨bs, 0, none⟩)] w0 [] (RV (.tuple #[.slice none 0 0, .int .i64 (XO f id)])) := by
  refine ZB Tryz.func181 rfl Tryz.ntmps181 rfl (Own.refl _) ?_
  simp only [ZU]
  refine Zc <| Za <| gas rfl rfl <| gas rfl rfl <| gA <| Zc <| Zc <| Za <| gm rfl rfl <| Zn (ZD rfl (vf := []) (vc := []) rfl rfl Tryz.call184 (fun w1 ho => Zdk f hf bs bf rb cb rp cp id bm num free w1 (hs.at ho) (hc.at ho)) ?_)
  rintro _ _ ⟨rfl, rfl⟩
  refine gas rfl rfl <| gA <| Zc <| Za <| gm rfl rfl <| gr rfl (ZP rfl rfl) (Zv (fun h8 => ?_) (fun h8 => ?_))
  · refine gA <| Zj rfl <| Zc <| Za <| gm rfl rfl <| gas rfl rfl <| gas rfl rfl <| gA <| Zt <| Zg <| YA (.inl rfl) Tryz.results181 rfl rfl [] (by decide) ?_
    exact ⟨rfl, rfl⟩
  exact absurd hf2 h8
theorem up_okP (q : SS) (V : Ye) (n : Nat) (hq : q.Ok V n) (S : List Nat) (w0 : World) (hown : Own w0 S w0 q.hl) (s : Org) (bp : Nat) (hP : PsIn s bp q.bs w0 S) : Sp Tryz.prog 46 [.pointer (some ⟨bp, 0, none⟩)] w0 S (fun v L => v = .int .i64 0 ∧ L = q.hl) := by
  have hp := hP.p
  refine ZB Tryz.func46 rfl Tryz.ntmps46 rfl hown ?_
  simp only [ZU]
  refine Zc <| Za <| gas rfl rfl <| gA <| Zc <| Za <| gm rfl rfl <| gnc rfl rfl <| gr rfl (Zd rfl (X3 _)) <| gr rfl (Zh Tryz.underlying50 rfl rfl (Yf hp hP.o (j := 1) rfl)) <| Zn <| Xg (rv := (.pointer (some ⟨q.bs, 0, none⟩))) (F := 181) rfl rfl (Zfp _) Tryz.call181 <| (Z6 [] q.hl rfl rfl (vf := []) (vc := []) rfl rfl Tryz.call181 rfl (fun w how hc => q_keys q V n hq _ w hc) ?_)
  rintro _ _ ⟨r, k, c, zs, rfl, rfl⟩
  refine gm rfl rfl <| gr rfl (Zp rfl rfl) <| gr rfl (Zp rfl rfl) <| gas rfl rfl <| gas rfl rfl <| gA <| Zc <| Za <| gm rfl rfl <| gas rfl rfl <| gA <| Zt <| Z0 (.inl rfl) Tryz.results46 rfl (ZJ (A := []) (B := [_]) (T := q.hl) [] 1 (by decide) (by decide) rfl rfl) ?_
  exact ⟨rfl, rfl⟩
theorem up_stop (q : SS) (hq : q.Stop) (S : List Nat) (w0 : World) (hown : Own w0 S w0 q.hl) (s : Org) (bp : Nat) (hP : PsIn s bp q.bs w0 S) : Sp Tryz.prog 46 [.pointer (some ⟨bp, 0, none⟩)] w0 S (fun v L => v = .int .i64 q.err ∧ L = q.hl) := by
  have hp := hP.p
  refine ZB Tryz.func46 rfl Tryz.ntmps46 rfl hown ?_
  simp only [ZU]
  refine Zc <| Za <| gas rfl rfl <| gA <| Zc <| Za <| gm rfl rfl <| gnc rfl rfl <| gr rfl (Zd rfl (X3 _)) <| gr rfl (Zh Tryz.underlying50 rfl rfl (Yf hp hP.o (j := 1) rfl)) <| Zn <| Xg (rv := (.pointer (some ⟨q.bs, 0, none⟩))) (F := 181) rfl rfl (Zfp _) Tryz.call181 <| (ZD rfl (vf := []) (vc := []) rfl rfl Tryz.call181 (fun w how => Zhc q.f hq.ok q.bs q.bf q.rb q.cb q.rp q.cp q.id q.bm q.num _ w (how.blkCells 0 rfl) (how.blkCells 2 rfl) hq.no) ?_)
  rintro _ _ ⟨rfl, rfl⟩
  refine gm rfl rfl <| gr rfl (Zp rfl rfl) <| gr rfl (Zp rfl rfl) <| gas rfl rfl <| gas rfl rfl <| gA <| Zc <| Za <| gm rfl rfl <| gas rfl rfl <| gA <| Zt <| Z0 (.inl rfl) Tryz.results46 rfl (ZJ (A := []) (B := []) (T := q.hl) [] 0 (by decide) (by decide) rfl rfl) ?_
  exact ⟨rfl, rfl⟩
theorem Zcn (q : SS) (hq : (∃ V n, q.Ok V n) ∨ q.Stop) (S : List Nat) (w0 : World) (hown : Own w0 S w0 q.hl) (s : Org) (bp : Nat) (hP : PsIn s bp q.bs w0 S) : Sp Tryz.prog 46 [.pointer (some ⟨bp, 0, none⟩)] w0 S (fun v L => v = .int .i64 q.err ∧ L = q.hl) := by
  rcases hq with ⟨V, n, h⟩ | h
  · have e := up_okP q V n h S w0 hown s bp hP
    rw [h.zero]; exact e
  · exact up_stop q h S w0 hown s bp hP
theorem JV (q : SS) (V : Ye) (n : Nat) (hq : q.Ok V n) (S : List Nat) (w0 : World) (hown : Own w0 S w0 q.hl) (s : Org) (bp : Nat) (hP : PsIn s bp q.bs w0 S) (x : Pis) (hx : pnE s.ds.length x = 0) : Sp Tryz.prog 47 [.pointer (some ⟨bp, 0, none⟩), Pis.val x] w0 S (fun v L => ∃ (r : Option Nat) (c : Nat) (r2 : Option Nat) (c2 : Nat), v = .tuple #[.agg #[.slice (rowA r) (kD V x).1.length c, .slice (rowA r2) (kD V x).2.length c2], .bool (Xc V x).isSome] ∧ L = .row 3 1 r (kD V x).1.length c ((kD V x).1.map natV) :: .row 3 1 r2 (kD V x).2.length c2 ((kD V x).2.map natV) :: q.hl) := by
  have hp := hP.p
  have hsg := sget_key hP.nd hx V
  refine ZB Tryz.func47 rfl Tryz.ntmps47 rfl hown ?_
  simp only [ZU]
  refine Zc <| Za <| Zn (Z7 rfl rfl rfl (fun b3 => ?_))
  refine Zn (ZO ZZ rfl rfl (fun b4 => ?_))
  refine gas rfl rfl <| gA <| Zc <| YI [_, _] q.hl [0, 1] true 13 rfl rfl <| Zb 0 rfl rfl (Zz 0 rfl) (Ze (Zi rfl)) ?_
  refine Zb 1 rfl rfl (Zz 0 rfl) (Ze (ZL rfl)) ?_
  refine Zb 2 rfl rfl (Zz 0 rfl) (Ze (Zd rfl (X3 _))) ?_
  refine Zb 3 rfl rfl (Zz 0 rfl) (Ze (Zh Tryz.underlying50 rfl rfl (Yf hp hP.o (j := 1) rfl))) ?_
  refine Zb 4 rfl rfl (Zz 0 rfl) (Ze (Zr Tryz.underlying23 rfl YB rfl (by exact ZH 1 (off := 0) (k := 3) rfl rfl) rfl)) ?_
  refine Zb 5 rfl rfl (Zz 0 rfl) (YE (vf := []) (vc := []) rfl rfl Tryz.call54 (fun w1 ho => Zfq hP.nd x hx w1) (by rintro _ _ ⟨h, _⟩; exact h)) ?_
  refine Zb 6 rfl rfl (Zz 0 rfl) (Ze (Wk rfl)) ?_
  refine Zb 7 rfl rfl (Zz 0 rfl) (Ze (Zi rfl)) ?_
  refine ZF 8 rfl (.inr (Zz 0 rfl)) (Xg (rv := (.pointer (some ⟨q.bs, 0, none⟩))) (F := 180) rfl rfl (m_get _) Tryz.call180 ?_)
  refine (Z6 [_, _] q.hl rfl rfl (vf := []) (vc := []) rfl rfl Tryz.call180 rfl (fun w how hc => q_get q V n hq _ w hc _) ?_)
  rintro _ _ ⟨rg, cg, rfl, rfl⟩
  rw [hsg]
  dsimp only
  refine Zb 9 rfl rfl (ZJ (A := [_, _]) (B := [_, _, _]) (T := q.hl) [0, 1] 3 (by decide) (by decide) rfl rfl) (Ze (Zi rfl)) ?_
  refine Zb 10 rfl rfl (ZJ (A := [_, _]) (B := [_, _, _]) (T := q.hl) [0, 1] 3 (by decide) (by decide) rfl rfl) (Ze (Zp rfl rfl)) ?_
  refine Zb 11 rfl rfl (ZJ (A := [_, _]) (B := [_, _, _]) (T := q.hl) [0, 1] 3 (by decide) (by decide) rfl rfl) (Ze (Zp rfl rfl)) ?_
  refine Zb 12 rfl rfl (ZJ (A := [_, _]) (B := [_, _, _]) (T := q.hl) [0, 1] 3 (by decide) (by decide) rfl rfl) (Ze (ZS rfl)) ?_
  refine Zb 13 rfl rfl (ZJ (A := [_, _]) (B := [_, _, _]) (T := q.hl) [0, 1] 3 (by decide) (by decide) rfl rfl) (Ze (ZS rfl)) ?_
  refine ZR (.inr (ZJ (A := [_, _]) (B := [_, _, _]) (T := q.hl) [0, 1] 3 (by decide) (by decide) rfl rfl)) ?_
  refine Zf <| Zc <| Zc <| Za <| gm rfl rfl <| gr rfl (ZP rfl rfl) (Zv (fun h21 => ?_) (fun h21 => ?_))
  · exact absurd rfl h21
  refine gm rfl rfl <| Zl rfl rfl <| Zs rfl (Zi rfl) <| Zl rfl rfl <| Zs rfl (ZG Tryz.underlying65 rfl) <| Zl rfl rfl (Zs rfl (ZP rfl rfl) (Zv (fun h25 => ?_) (fun h25 => ?_)))
  · replace h25 : ¬ (bytesV V x).length = 14 := by omega
    refine gr rfl (Zo rfl rfl) <| gA <| Zj rfl <| Zc <| Y6 3 1 <| Y6 3 1 <| Za <| gr rfl (ZQ rfl (fun _ => Zep)) ?_
    refine Zn (ZA 2 ZZ rfl rfl rfl rfl rfl rfl (by rfl) ?_)
    refine gas rfl rfl <| gA <| Zt <| Zg <| VH (.inl rfl) Tryz.results47 (YM Tryz.underlying26 rfl ZZ rfl (by rfl) (ZH 2 (off := 0) (k := 2) rfl rfl)) (Xd rfl) (ZJ (A := [_, _]) (B := [_, _, _, _, _]) (T := q.hl) [0, 1] 5 (by decide) (by decide) rfl rfl) ?_
    have hkv : Xc V x = none := by rw [Ziz, if_neg h25]
    exact ⟨none, 0, none, 0, by unfold kD; rw [hkv]; rfl, by unfold kD; rw [hkv]; rfl⟩
  have hl14 : (bytesV V x).length = 14 := by omega
  refine gr rfl (Zo rfl rfl) <| gA <| Zk rfl <| Zx <| Zf <| Zc ?_
  rw [hl14]
  refine Za <| gm rfl rfl <| Zn (ZD rfl (vf := []) (vc := []) rfl rfl Tryz.call91 (fun w1 ho => Zmm (bytesV V x) (hq.bytesV x).2 hl14 (rowA rg) cg w1 (ho.rowSl 2 rfl)) ?_)
  rintro _ _ ⟨rS, cS, rC, cC, rfl, rfl⟩
  refine Zn (ZA 2 ZZ rfl rfl rfl rfl rfl rfl (by rfl) ?_)
  refine gas rfl rfl <| gA <| Zt <| VH (.inl rfl) Tryz.results47 (YM Tryz.underlying26 rfl ZZ rfl (by rfl) (ZH 2 (off := 0) (k := 2) rfl rfl)) (Xd rfl) (ZJ (A := [_, _]) (B := [_, _, _, _, _]) (T := q.hl) [0, 1] 5 (by decide) (by decide) rfl rfl) ?_
  have hkv : Xc V x = some (unpS (bytesV V x) 1 80, unpS (bytesV V x) 11 24) := by rw [Ziz, if_pos hl14]
  exact ⟨rS, cS, rC, cC, by unfold kD; rw [hkv]; rfl, by unfold kD; rw [hkv]; rfl⟩
namespace Ip
theorem asc_len : ∀ {l : List Nat} {n : Nat}, l.Pairwise (· < ·) → (∀ i ∈ l, i < n) → l.length ≤ n := fun {l n} h hn => by
  have e := Zaq (f := fun i => decide (i ∈ l)) h hn (fun i _ => by simp)
  rw [← e]
  exact Nat.le_trans (List.length_filter_le _ _) (by simp)
theorem Znq (l : List Nat) : ∀ u ∈ l.map natV, u.oneCell' = true := fun u hu => by
  obtain ⟨z, _, rfl⟩ := List.mem_map.1 hu; rfl
theorem J4 {ns nc : Nat} {r : Rg} (h : RgOk ns nc r) (hn : ns ≤ 80) : r.1.length ≤ 1000 := by have := asc_len h.s h.sn; omega
theorem J5 {ns nc : Nat} {r : Rg} (h : RgOk ns nc r) (hn : nc ≤ 24) : r.2.length ≤ 1000 := by have := asc_len h.c h.cn; omega
end Ip
open Ip
theorem Zfr (s : Org) (bp bs : Nat) (w0 : World) (hP : PsIn s bp bs w0 []) (x : Pis) (k w : Rg) (hk : RgOk s.ss.length s.cs.length k) (hw : RgOk s.ss.length s.cs.length w) (a1 a2 a3 a4 : Option Addr) (c1 c2 c3 c4 : Nat) (h1 : OldSl w0 [] a1 k.1.length 1 (k.1.map natV)) (h2 : OldSl w0 [] a2 k.2.length 1 (k.2.map natV)) (h3 : OldSl w0 [] a3 w.1.length 1 (w.1.map natV)) (h4 : OldSl w0 [] a4 w.2.length 1 (w.2.map natV)) : Sp Tryz.prog 48 [.pointer (some ⟨bp, 0, none⟩), Pis.val x, .agg #[.slice a1 k.1.length c1, .slice a2 k.2.length c2], .agg #[.slice a3 w.1.length c3, .slice a4 w.2.length c4]] w0 [] (fun v L => ∃ (r : Option Nat) (c : Nat) (r2 : Option Nat) (c2 : Nat), v = .agg #[.slice (rowA r) (XW s x k w).1.length c, .slice (rowA r2) (XW s x k w).2.length c2] ∧ L = [.row 3 1 r (XW s x k w).1.length c ((XW s x k w).1.map natV), .row 3 1 r2 (XW s x k w).2.length c2 ((XW s x k w).2.map natV)]) := by
  have hp := hP.p
  have hp2 := hP.sp
  have hnd := hP.nd
  have hns := hP.ns
  have hnc := hP.nc
  have hk1 : k.1.length ≤ 1000 := J4 hk hns
  have hk2 : k.2.length ≤ 1000 := J5 hk hnc
  have hw1 : w.1.length ≤ 1000 := J4 hw hns
  have hw2 : w.2.length ≤ 1000 := J5 hw hnc
  have hf0 := List.length_filter_le (Yu s x) k.1
  have hf1 := List.length_filter_le (Yw s x) k.2
  have hf2 := List.length_filter_le (Xm (Yu s x)) w.1
  have hf3 := List.length_filter_le (Xm (Yw s x)) w.2
  refine ZB Tryz.func48 rfl Tryz.ntmps48 rfl (Own.refl _) ?_
  simp only [ZU]
  refine Zc <| Za <| Zn (Z7 rfl rfl rfl (fun b5 => ?_))
  refine Zn (Z7 rfl rfl rfl (fun b6 => ?_))
  refine Zn (Z7 rfl rfl rfl (fun b7 => ?_))
  refine Zn (ZO ZZ rfl rfl (fun b8 => ?_))
  refine gA <| Zc <| Za <| gm rfl rfl <| gr rfl (Zr Tryz.underlying23 rfl YB rfl (by exact ZH 3 (off := 0) (k := 3) rfl rfl) rfl) ?_
  refine gr rfl (Zr Tryz.underlying26 rfl ZZ rfl (by exact ZH 2 (off := 0) (k := 2) rfl rfl) rfl) ?_
  refine Zn (ZD rfl (vf := []) (vc := []) rfl rfl Tryz.call53 (fun w1 ho => Zcm s bp bs w1 (hP.at ho) x k.1 k.2 a1 a2 c1 c2 hk.sn hk.cn hk1 hk2 (h1.at ho) (h2.at ho)) ?_)
  rintro _ _ ⟨p1, pd1, p3, pd3, p2, pd2, p4, pd4, rfl, rfl⟩
  refine gm rfl rfl <| gr rfl (Zp rfl rfl) <| gr rfl (Zp rfl rfl) <| Zn (ZO ZZ rfl rfl (fun b9 => ?_))
  refine Zn (ZO ZZ rfl rfl (fun b10 => ?_))
  refine Zn (ZA 1 ZZ rfl rfl rfl rfl rfl rfl (by rfl) ?_)
  refine Zn (ZA 0 ZZ rfl rfl rfl rfl rfl rfl (by rfl) ?_)
  refine gA <| Zc <| Za <| gm rfl rfl <| gr rfl (Zr Tryz.underlying23 rfl YB rfl (by exact ZH 9 (off := 0) (k := 3) rfl rfl) rfl) ?_
  refine gr rfl (Zr Tryz.underlying26 rfl ZZ rfl (by exact ZH 7 (off := 0) (k := 2) rfl rfl) rfl) ?_
  refine Zn (ZD rfl (vf := []) (vc := []) rfl rfl Tryz.call53 (fun w1 ho => Zcm s bp bs w1 (hP.at ho) x w.1 w.2 a3 a4 c3 c4 hw.sn hw.cn hw1 hw2 (h3.at ho) (h4.at ho)) ?_)
  rintro _ _ ⟨q1, qd1, q3, qd3, q2, qd2, q4, qd4, rfl, rfl⟩
  refine gm rfl rfl <| gr rfl (Zp rfl rfl) <| gr rfl (Zp rfl rfl) <| Zn (ZO ZZ rfl rfl (fun b11 => ?_))
  refine Zn (ZO ZZ rfl rfl (fun b12 => ?_))
  refine Zn (ZA 1 ZZ rfl rfl rfl rfl rfl rfl (by rfl) ?_)
  refine Zn (ZA 0 ZZ rfl rfl rfl rfl rfl rfl (by rfl) ?_)
  refine gA <| Zc <| Za <| gr rfl (Zd rfl (YZ _)) <| gr rfl (Zh Tryz.underlying24 rfl rfl (by exact Zq 0 rfl rfl)) ?_
  refine gr rfl (Zd rfl (YZ _)) <| gr rfl (Zh Tryz.underlying24 rfl rfl (by exact Zq 7 rfl rfl)) ?_
  refine Zn (Zcv 4 (fun w ho => ho.rowSl 8 rfl) Tryz.underlying24 Xz rfl (by decide) rfl rfl rfl rfl (Znq _) (by omega) (by omega) (fun _ => (by rfl)) (fun r31 c31 => ?_))
  refine gr rfl (Zd rfl (YZ _)) <| Zn (Ya 0 J9 rfl rfl rfl rfl rfl (by rfl) (by rfl) ?_)
  refine gA <| Zc <| Za <| gr rfl (Zd rfl (Y0 _)) <| gr rfl (Zh Tryz.underlying24 rfl rfl (by exact Zq 0 rfl rfl)) ?_
  refine gr rfl (Zd rfl (Y0 _)) <| gr rfl (Zh Tryz.underlying24 rfl rfl (by exact Zq 7 rfl rfl)) ?_
  refine Zn (Zcv 5 (fun w ho => ho.rowSl 9 rfl) Tryz.underlying24 Xz rfl (by decide) rfl rfl rfl rfl (Znq _) (by omega) (by omega) (fun _ => (by rfl)) (fun r37 c37 => ?_))
  refine gr rfl (Zd rfl (Y0 _)) <| Zn (Ya 0 J9 rfl rfl rfl rfl rfl (by rfl) (by rfl) ?_)
  refine gA <| Zc ?_
  rw [← List.length_append, ← List.map_append, ← List.length_append, ← List.map_append]
  refine Za <| gr rfl (Zd rfl (YZ _)) <| gr rfl (Zh Tryz.underlying24 rfl rfl (by exact Zq 0 rfl rfl)) ?_
  refine Zn (Yg [4] [0, 1, 2, 3, 5, 6, 7, 8, 9, 10, 11, 12, 13, 14, 15] rfl (vf := []) (vc := []) rfl rfl Tryz.call92 (by decide) rfl (fun w9 how hc => Zir _ _ _ _ w9 hc (by rw [List.length_append]; omega)) ?_)
  rintro _ _ rfl
  refine gA <| Zc <| Za <| gr rfl (Zd rfl (Y0 _)) <| gr rfl (Zh Tryz.underlying24 rfl rfl (by exact Zq 1 rfl rfl)) ?_
  refine Zn (Yg [5] [0, 1, 2, 3, 4, 6, 7, 8, 9, 10, 11, 12, 13, 14, 15] rfl (vf := []) (vc := []) rfl rfl Tryz.call92 (by decide) rfl (fun w9 how hc => Zir _ _ _ _ w9 hc (by rw [List.length_append]; omega)) ?_)
  rintro _ _ rfl
  have e1 : srt ((w.1.filter (Xm (Yu s x))) ++ (k.1.filter (Yu s x))) = (XW s x k w).1 := Zhb hk.s hw.s hk.sn hw.sn
  have e2 : srt ((w.2.filter (Xm (Yw s x))) ++ (k.2.filter (Yw s x))) = (XW s x k w).2 := Zhb hk.c hw.c hk.cn hw.cn
  have e3 := Ziq ((w.1.filter (Xm (Yu s x))) ++ (k.1.filter (Yu s x)))
  have e4 := Ziq ((w.2.filter (Xm (Yw s x))) ++ (k.2.filter (Yw s x)))
  rw [e1] at e3
  rw [e2] at e4
  rw [e1, e2, ← e3, ← e4]
  refine gA <| Zc <| Za <| gr rfl (Zr Tryz.underlying26 rfl ZZ rfl (by exact ZH 2 (off := 0) (k := 2) rfl rfl) rfl) ?_
  refine Zn (ZA 12 ZZ rfl rfl rfl rfl rfl rfl (by rfl) ?_)
  refine gA <| Zt <| Za1 (.inl rfl) Tryz.results48 (YM Tryz.underlying26 rfl ZZ rfl (by rfl) (ZH 12 (off := 0) (k := 2) rfl rfl)) [1, 0] (by decide) ?_
  exact ⟨r31, c31, r37, c37, rfl, rfl⟩
namespace Ip
structure Cl where
  rd : Option Nat
  cd : Nat
  rt : Option Nat
  ct : Nat
  rc : Option Nat
  cc : Nat
abbrev clS (s : Org) (c : Cl) : Org := { s with da := rowA c.rd, dc := c.cd, sa := rowA c.rt, sc := c.ct, ca := rowA c.rc, cc := c.cc }
abbrev clV (s : Org) (c : Cl) : Value := .agg #[.slice (rowA c.rd) s.ds.length c.cd, .slice none 0 0, .slice (rowA c.rt) s.ss.length c.ct, .slice (rowA c.rc) s.cs.length c.cc]
abbrev clH (s : Org) (c : Cl) : List HL := [.row 109 3 c.rd s.ds.length c.cd (s.ds.flatMap Dv.cells), .row 99 5 c.rt s.ss.length c.ct (s.ss.flatMap St.cells), .row 113 6 c.rc s.cs.length c.cc (s.cs.flatMap Cp.cells)]
abbrev psB (s : Org) (bp bs : Nat) (c : Cl) : HL := .blk bp [.bool true, .iface 33 (.pointer (some ⟨bs, 0, none⟩)), .slice (rowA c.rd) s.ds.length c.cd, .slice none 0 0, .slice (rowA c.rt) s.ss.length c.ct, .slice (rowA c.rc) s.cs.length c.cc] 52
abbrev psH (s : Org) (bp bs : Nat) (c : Cl) : List HL := psB s bp bs c :: clH s c
theorem Wl {s : Org} {bp bs : Nat} {c : Cl} {w0 w : World} {S : List Nat} {A T : List HL} (ho : Own w0 S w (A ++ T)) (i j k : Nat) (hi : A[i]? = some (psB s bp bs c)) (hj : A[j]? = some (.row 99 5 c.rt s.ss.length c.ct (s.ss.flatMap St.cells))) (hk : A[k]? = some (.row 113 6 c.rc s.cs.length c.cc (s.cs.flatMap Cp.cells))) (hd : s.ds.length ≤ 6) (hs : s.ss.length ≤ 80) (hc : s.cs.length ≤ 24) : PsIn (clS s c) bp bs w (T.filterMap HL.block) := by
  have hlt : i < A.length := (List.getElem?_eq_some_iff.1 hi).1
  exact ⟨ho.blkCells i (by rw [List.getElem?_append_left hlt]; exact hi), ho.blkOutT i hi, ho.rowSlT j hj, ho.rowSlT k hk, hd, hs, hc⟩
structure SS.Like (q q2 : SS) : Prop where
  bs : q2.bs = q.bs
  bf : q2.bf = q.bf
  rb : q2.rb = q.rb
  cb : q2.cb = q.cb
  rp : q2.rp = q.rp
  cp : q2.cp = q.cp
  len : q2.f.b.length = q.f.b.length
  st : q2.f.st = q.f.st
  no : q.f.left = -1 → q2.f.left = -1
theorem SS.Like.refl (q : SS) : q.Like q := ⟨rfl, rfl, rfl, rfl, rfl, rfl, rfl, rfl, fun h => h⟩
theorem SS.Like.trans {q q2 q3 : SS} (h : q.Like q2) (h2 : q2.Like q3) : q.Like q3 := ⟨h2.bs.trans h.bs, h2.bf.trans h.bf, h2.rb.trans h.rb, h2.cb.trans h.cb, h2.rp.trans h.rp, h2.cp.trans h.cp, h2.len.trans h.len, h2.st.trans h.st, fun e => h2.no (h.no e)⟩
structure SS.Torn (q2 : SS) (n : Nat) (V V2 : Ye) : Prop where
  ok : q2.f.Ok
  dn : q2.f.down = true
  fi : ∃ V' N, N ≤ n ∧ (V' = V ∨ V' = V2) ∧ FI q2.f.b N V'
  sp : ∃ e, e < q2.f.b.length / 256 ∧ Ve q2.f.b e
  pr : q2.f.pr ≤ 100000 * n
  er : q2.f.er ≤ n
def Zhd (V : Ye) (k cap len : Nat) : Prop := V k = none ∧ cap ≤ len
def PutR (q : SS) (V : Ye) (n key : Nat) (vs : List Nat) : Value → List HL → Prop := fun v L =>
  (Zhd V key (10 * (q.f.b.length / 256 - 2)) q.m.length ∧ v = .int .i64 5 ∧ L = q.hl) ∨
  (¬ Zhd V key (10 * (q.f.b.length / 256 - 2)) q.m.length ∧ ∃ q2 : SS, v = .int .i64 0 ∧ q2.Ok (Zap V key (q.num + 1) vs) (n + 1) ∧ q.Like q2 ∧ L = q2.hl) ∨
  (¬ Zhd V key (10 * (q.f.b.length / 256 - 2)) q.m.length ∧ ∃ q2 : SS, v = .int .i64 9 ∧ q.f.left ≠ -1 ∧ q2.Torn (n + 1) V (Zap V key (q.num + 1) vs) ∧ q.Like q2 ∧ L = q2.hl)
theorem SS.Ok.mlen {q : SS} {V : Ye} {n : Nat} (h : q.Ok V n) : q.m.length ≤ 620 := by
  have h1 := h.st.cap
  have h2 := h.st.ok.hi
  omega
theorem Zlb (q : SS) (V : Ye) (n : Nat) (hq : q.Ok V n) (S : List Nat) (w0 : World) (hown : Own w0 S w0 q.hl) (hn : n < 1000000) (key : Nat) (hkey : key ≤ 999) (vs : List Nat) (hvs : ∀ z ∈ vs, z < 256) (hv16 : vs.length ≤ 16) (a : Option Addr) (ca : Nat) (hsl : OldSl w0 S a vs.length 1 (vs.map u8V)) : Sp Tryz.prog 182 [.pointer (some ⟨q.bs, 0, none⟩), natV key, .slice a vs.length ca] w0 S (PutR q V n key vs) := by
  have h1 := hq.pr
  have h2 := hq.er
  have h3 := hq.num
  have h4 := hq.mlen
  refine (PutG_ok q.f q.bs q.bf q.rb q.cb q.rp q.cp q.id q.bm q.num q.fb q.m q.nb q.T V hq.st S w0 hown (by omega) (by omega) (by omega) key hkey vs hvs hv16 a ca hsl).mono ?_
  rintro v L (⟨hf, rfl, rfl⟩ | ⟨hf, f2, m2, nb2, fb2, T2, rfl, hF, hst, hT, rfl⟩ | ⟨hf, f2, m2, nb2, fb2, num2, id2, T2, rfl, hF, hT2, hT, rfl⟩)
  · exact .inl ⟨hf, rfl, rfl⟩
  · have p1 := hF.pr
    have p2 := hF.er
    refine .inr (.inl ⟨hf, { q with f := f2, num := q.num + 1, fb := fb2, m := m2, nb := nb2, T := T2 }, rfl, ⟨hst, ?_, ?_, ?_⟩, ⟨rfl, rfl, rfl, rfl, rfl, rfl, hF.len, hF.st, hF.no⟩, rfl⟩)
    · show f2.pr ≤ 100000 * (n + 1); omega
    · show f2.er ≤ n + 1; omega
    · show q.num + 1 ≤ n + 1; omega
  · have p1 := hF.pr
    have p2 := hF.er
    refine .inr (.inr ⟨hf, { q with f := f2, id := id2, num := num2, fb := fb2, m := m2, nb := nb2, T := T2 }, rfl, hT2.no, ⟨hF.ok, hT2.dn, ?_, ?_, ?_, ?_⟩, ⟨rfl, rfl, rfl, rfl, rfl, rfl, hF.len, hF.st, hF.no⟩, rfl⟩)
    · obtain ⟨V', h5, h6⟩ := hT2.fi
      exact ⟨V', q.num + 1, by omega, h5, h6⟩
    · obtain ⟨e, h5, h6⟩ := hT2.sp
      exact ⟨e, by show e < f2.b.length / 256; rw [hF.len]; exact h5, h6⟩
    · show f2.pr ≤ 100000 * (n + 1); omega
    · show f2.er ≤ n + 1; omega
end Ip
open Ip
theorem eg_40 : Tryz.prog.eqGuardType Tryz.prog.depth 40 = false := by kernel_rfl
theorem one_109 (l : List Dv) : ∀ u ∈ l.flatMap Dv.cells, u.oneCell' = true := fun u hu => by
  obtain ⟨x, _, h⟩ := List.mem_flatMap.1 hu
  simp only [Dv.cells, List.mem_cons, List.not_mem_nil, or_false] at h
  rcases h with rfl | rfl | rfl <;> rfl
theorem eg_42 : Tryz.prog.eqGuardType Tryz.prog.depth 42 = false := by kernel_rfl
theorem one_99 (l : List St) : ∀ u ∈ l.flatMap St.cells, u.oneCell' = true := fun u hu => by
  obtain ⟨x, _, h⟩ := List.mem_flatMap.1 hu
  simp only [St.cells, List.mem_cons, List.not_mem_nil, or_false] at h
  rcases h with rfl | rfl | rfl | rfl | rfl <;> rfl
theorem eg_43 : Tryz.prog.eqGuardType Tryz.prog.depth 43 = false := by kernel_rfl
theorem one_113 (l : List Cp) : ∀ u ∈ l.flatMap Cp.cells, u.oneCell' = true := fun u hu => by
  obtain ⟨x, _, h⟩ := List.mem_flatMap.1 hu
  simp only [Cp.cells, List.mem_cons, List.not_mem_nil, or_false] at h
  rcases h with rfl | rfl | rfl | rfl | rfl | rfl <;> rfl
theorem Zhe (xs ys : List Nat) (a b : Option Addr) (ca cb : Nat) (hxl : xs.length ≤ 140737488355328) (w0 : World) (hx : OldSl w0 [] a xs.length 1 (xs.map natV)) (hy : OldSl w0 [] b ys.length 1 (ys.map natV)) : Sp Tryz.prog 52 [.slice a xs.length ca, .slice b ys.length cb] w0 [] (RV (.bool (decide (xs = ys)))) := by
  refine ZB Tryz.func52 rfl Tryz.ntmps52 rfl (Own.refl _) ?_
  simp only [ZU]
  refine Zc <| Za <| gas rfl rfl <| gA <| Zc <| Zc <| Za <| gm rfl rfl <| gr rfl (ZG Tryz.underlying24 rfl) <| gm rfl rfl <| gr rfl (ZG Tryz.underlying24 rfl) <| gr rfl (ZP rfl rfl) (Zv (fun h10 => ?_) (fun h10 => ?_))
  · refine gA <| Zj rfl <| Zc <| Za <| gas rfl rfl <| gA <| Zt <| Zg <| ZC (.inl rfl) Tryz.results52 rfl [] (by decide) ?_
    refine ⟨congrArg Value.bool (Eq.symm ?_), rfl⟩
    exact decide_eq_false (fun e => by subst e; omega)
  refine gA <| Zk rfl <| Zx <| Zf <| Zc <| Zc <| Za <| gm rfl rfl <| gr rfl (ZG Tryz.underlying24 rfl) <| gm rfl rfl <| gA <| ZI <| Z3 (ι := Nat) [(0, _), (1, _), (12, _)] [] (fun k => k ≤ xs.length ∧ xs.take k = ys.take k) (fun k Fr0 => ((13, natV k) :: Fr0)) (fun k Fr0 => Fr0) (fun k => xs.length - k) 0 (⟨Nat.zero_le _, rfl⟩) ⟨rfl, rfl, rfl, rfl, trivial⟩ ⟨[], by decide, rfl⟩ ?_
  rintro k ⟨hk, htk⟩
  refine Zc <| Za <| gr rfl (Z5 rfl rfl) (Zv (fun h14 => ?_) (fun h14 => ?_))
  · obtain ⟨u, hu⟩ := get_some (show k < xs.length by omega)
    obtain ⟨v, hv⟩ := get_some (show k < ys.length by omega)
    refine gA <| Zc <| Zj rfl <| Zx <| Zf <| Zc <| ZI <| Zc <| Za <| gm rfl rfl <| gas rfl rfl <| gA <| Zc <| ZV [] true 8 rfl <| Zb 0 rfl rfl ⟨[], by decide, rfl⟩ (Ze (Zi rfl)) ?_
    refine Zb 1 rfl rfl ⟨[], by decide, rfl⟩ (Ze (Zi rfl)) ?_
    refine Zb 2 rfl rfl ⟨[], by decide, rfl⟩ (Ze (Yb hx Tryz.underlying24 Xz rfl rfl (by omega) (by omega))) ?_
    refine Zb 3 rfl rfl ⟨[], by decide, rfl⟩ (Ze (Zh Tryz.underlying3 rfl rfl (Xe hx (Wu hu)))) ?_
    refine Zb 4 rfl rfl ⟨[], by decide, rfl⟩ (Ze (Zi rfl)) ?_
    refine Zb 5 rfl rfl ⟨[], by decide, rfl⟩ (Ze (Zi rfl)) ?_
    refine Zb 6 rfl rfl ⟨[], by decide, rfl⟩ (Ze (Yb hy Tryz.underlying24 Xz rfl rfl (by omega) (by omega))) ?_
    refine Zb 7 rfl rfl ⟨[], by decide, rfl⟩ (Ze (Zh Tryz.underlying3 rfl rfl (Xe hy (Wu hv)))) ?_
    refine Zb 8 rfl rfl ⟨[], by decide, rfl⟩ (Ze (ZP rfl rfl)) (Zv (fun h24 => ?_) (fun h24 => ?_))
    · refine ZR (.inr ⟨[], by decide, rfl⟩) ?_
      refine Zf <| Zj rfl <| Zc <| Za <| gas rfl rfl <| gA <| Zt <| Zy <| Zg <| Zg <| Zy <| Zg <| ZC (.inl rfl) Tryz.results52 rfl [] (by decide) ?_
      refine ⟨congrArg Value.bool (Eq.symm ?_), rfl⟩
      exact decide_eq_false (fun e => by subst e; rw [hu] at hv; cases hv; omega)
    refine ZR (.inr ⟨[], by decide, rfl⟩) ?_
    refine Zf <| Zk rfl <| Zx <| ZM <| Zf <| Za <| gr rfl (by exact ZN (b := 1) rfl rfl (by omega)) ?_
    refine gm rfl rfl <| ZW <| Zf ?_
    exact Z1 (k + 1) ⟨⟨by omega, by rw [take_at hu, take_at hv, htk, show u = v by omega]⟩, by omega⟩ ⟨rfl, rfl, rfl, rfl, trivial⟩ ⟨[], by decide, rfl⟩
  refine gA <| Zc <| Zk rfl <| Z4 <| Zw <| Zw <| ZK <| Zf <| Zc <| Za <| gas rfl rfl <| gA <| Zt <| ZC (.inl rfl) Tryz.results52 rfl [] (by decide) ?_
  refine ⟨congrArg Value.bool (Eq.symm ?_), rfl⟩
  rw [List.take_of_length_le (by omega), List.take_of_length_le (by omega)] at htk
  exact decide_eq_true htk
theorem Zov (xs ys : List Nat) (a b : Option Addr) (ca cb : Nat) (hxl : xs.length ≤ 140737488355328) (w0 : World) (hx : OldSl w0 [] a xs.length 1 (xs.map u8V)) (hy : OldSl w0 [] b ys.length 1 (ys.map u8V)) : Sp Tryz.prog 37 [.slice a xs.length ca, .slice b ys.length cb] w0 [] (RV (.bool (decide (xs = ys)))) := by
  refine ZB Tryz.func37 rfl Tryz.ntmps37 rfl (Own.refl _) ?_
  simp only [ZU]
  refine Zc <| Za <| gas rfl rfl <| gA <| Zc <| Zc <| Za <| gm rfl rfl <| gr rfl (ZG Tryz.underlying65 rfl) <| gm rfl rfl <| gr rfl (ZG Tryz.underlying65 rfl) <| gr rfl (ZP rfl rfl) (Zv (fun h10 => ?_) (fun h10 => ?_))
  · refine gA <| Zj rfl <| Zc <| Za <| gas rfl rfl <| gA <| Zt <| Zg <| ZC (.inl rfl) Tryz.results37 rfl [] (by decide) ?_
    refine ⟨congrArg Value.bool (Eq.symm ?_), rfl⟩
    exact decide_eq_false (fun e => by subst e; omega)
  refine gA <| Zk rfl <| Zx <| Zf <| Zc <| Zc <| Za <| gm rfl rfl <| gr rfl (ZG Tryz.underlying65 rfl) <| gm rfl rfl <| gA <| ZI <| Z3 (ι := Nat) [(0, _), (1, _), (12, _)] [] (fun k => k ≤ xs.length ∧ xs.take k = ys.take k) (fun k Fr0 => ((13, natV k) :: Fr0)) (fun k Fr0 => Fr0) (fun k => xs.length - k) 0 (⟨Nat.zero_le _, rfl⟩) ⟨rfl, rfl, rfl, rfl, trivial⟩ ⟨[], by decide, rfl⟩ ?_
  rintro k ⟨hk, htk⟩
  refine Zc <| Za <| gr rfl (Z5 rfl rfl) (Zv (fun h14 => ?_) (fun h14 => ?_))
  · obtain ⟨u, hu⟩ := get_some (show k < xs.length by omega)
    obtain ⟨v, hv⟩ := get_some (show k < ys.length by omega)
    refine gA <| Zc <| Zj rfl <| Zx <| Zf <| Zc <| ZI <| Zc <| Za <| gm rfl rfl <| gas rfl rfl <| gA <| Zc <| ZV [] true 8 rfl <| Zb 0 rfl rfl ⟨[], by decide, rfl⟩ (Ze (Zi rfl)) ?_
    refine Zb 1 rfl rfl ⟨[], by decide, rfl⟩ (Ze (Zi rfl)) ?_
    refine Zb 2 rfl rfl ⟨[], by decide, rfl⟩ (Ze (Yb hx Tryz.underlying65 Yp rfl rfl (by omega) (by omega))) ?_
    refine Zb 3 rfl rfl ⟨[], by decide, rfl⟩ (Ze (Zh Tryz.underlying5 rfl rfl (Xe hx (Xs hu)))) ?_
    refine Zb 4 rfl rfl ⟨[], by decide, rfl⟩ (Ze (Zi rfl)) ?_
    refine Zb 5 rfl rfl ⟨[], by decide, rfl⟩ (Ze (Zi rfl)) ?_
    refine Zb 6 rfl rfl ⟨[], by decide, rfl⟩ (Ze (Yb hy Tryz.underlying65 Yp rfl rfl (by omega) (by omega))) ?_
    refine Zb 7 rfl rfl ⟨[], by decide, rfl⟩ (Ze (Zh Tryz.underlying5 rfl rfl (Xe hy (Xs hv)))) ?_
    refine Zb 8 rfl rfl ⟨[], by decide, rfl⟩ (Ze (ZP rfl rfl)) (Zv (fun h24 => ?_) (fun h24 => ?_))
    · refine ZR (.inr ⟨[], by decide, rfl⟩) ?_
      refine Zf <| Zj rfl <| Zc <| Za <| gas rfl rfl <| gA <| Zt <| Zy <| Zg <| Zg <| Zy <| Zg <| ZC (.inl rfl) Tryz.results37 rfl [] (by decide) ?_
      refine ⟨congrArg Value.bool (Eq.symm ?_), rfl⟩
      exact decide_eq_false (fun e => by subst e; rw [hu] at hv; cases hv; omega)
    refine ZR (.inr ⟨[], by decide, rfl⟩) ?_
    refine Zf <| Zk rfl <| Zx <| ZM <| Zf <| Za <| gr rfl (by exact ZN (b := 1) rfl rfl (by omega)) ?_
    refine gm rfl rfl <| ZW <| Zf ?_
    exact Z1 (k + 1) ⟨⟨by omega, by rw [take_at hu, take_at hv, htk, show u = v by omega]⟩, by omega⟩ ⟨rfl, rfl, rfl, rfl, trivial⟩ ⟨[], by decide, rfl⟩
  refine gA <| Zc <| Zk rfl <| Z4 <| Zw <| Zw <| ZK <| Zf <| Zc <| Za <| gas rfl rfl <| gA <| Zt <| ZC (.inl rfl) Tryz.results37 rfl [] (by decide) ?_
  refine ⟨congrArg Value.bool (Eq.symm ?_), rfl⟩
  rw [List.take_of_length_le (by omega), List.take_of_length_le (by omega)] at htk
  exact decide_eq_true htk
theorem Zow (l : List Dv) (a : Option Addr) (ca : Nat) (hn : l.length ≤ 100000) (w0 : World) (hsl : OldSl w0 [] a l.length 3 (l.flatMap Dv.cells)) : Sp Tryz.prog 87 [.slice a l.length ca] w0 [] (fun v L => ∃ (r : Option Nat) (cp : Nat), v = .slice (rowA r) l.length cp ∧ L = [.row 109 3 r l.length cp (l.flatMap Dv.cells)]) := by
  refine ZB Tryz.func87 rfl Tryz.ntmps87 rfl (Own.refl _) ?_
  simp only [ZU]
  refine Zc <| Za <| gas rfl rfl <| gA <| Zc <| Zc <| Za <| gm rfl rfl <| gr rfl (Vl eg_40 Tryz.underlying40 rfl rfl) <| Z8 (fun h4 => ?_) (fun h4 => ?_)
  · obtain rfl : a = none := by cases a with
      | none => rfl
      | some ad => cases h4
    obtain rfl : l = [] := by
      cases l with
      | nil => rfl
      | cons z zs => have := hsl.isSome (by simp); cases this
    refine gA <| Zj rfl <| Zc <| Y6 109 3 <| Za <| gas rfl rfl <| gA <| Zt <| Zg <| ZC (.inl rfl) Tryz.results87 rfl [0] (by decide) ?_
    exact ⟨none, 0, rfl, rfl⟩
  refine gA <| Zk rfl <| Zx <| Zf <| Zc <| Za <| Zn (ZX (sz := 3) rfl rfl (fun _ => bs_40_0_) rfl rfl (fun b5 => ?_))
  refine gm rfl rfl <| Zn (Vi 0 hsl Tryz.underlying40 JC rfl (by decide) rfl rfl rfl rfl (one_109 l) (by omega) (by omega) (fun _ => (by rfl)) (fun r7 c7 => ?_))
  refine gas rfl rfl <| gA <| Zt <| ZC (.inl rfl) Tryz.results87 rfl [0] (by decide) ?_
  exact ⟨r7, c7, by rw [Nat.zero_add], by rw [Nat.zero_add]; rfl⟩
theorem Zox (l : List St) (a : Option Addr) (ca : Nat) (hn : l.length ≤ 100000) (w0 : World) (hsl : OldSl w0 [] a l.length 5 (l.flatMap St.cells)) : Sp Tryz.prog 88 [.slice a l.length ca] w0 [] (fun v L => ∃ (r : Option Nat) (cp : Nat), v = .slice (rowA r) l.length cp ∧ L = [.row 99 5 r l.length cp (l.flatMap St.cells)]) := by
  refine ZB Tryz.func88 rfl Tryz.ntmps88 rfl (Own.refl _) ?_
  simp only [ZU]
  refine Zc <| Za <| gas rfl rfl <| gA <| Zc <| Zc <| Za <| gm rfl rfl <| gr rfl (Vl eg_42 Tryz.underlying42 rfl rfl) <| Z8 (fun h4 => ?_) (fun h4 => ?_)
  · obtain rfl : a = none := by cases a with
      | none => rfl
      | some ad => cases h4
    obtain rfl : l = [] := by
      cases l with
      | nil => rfl
      | cons z zs => have := hsl.isSome (by simp); cases this
    refine gA <| Zj rfl <| Zc <| Y6 99 5 <| Za <| gas rfl rfl <| gA <| Zt <| Zg <| ZC (.inl rfl) Tryz.results88 rfl [0] (by decide) ?_
    exact ⟨none, 0, rfl, rfl⟩
  refine gA <| Zk rfl <| Zx <| Zf <| Zc <| Za <| Zn (ZX (sz := 5) rfl rfl (fun _ => bs_42_0_) rfl rfl (fun b5 => ?_))
  refine gm rfl rfl <| Zn (Vi 0 hsl Tryz.underlying42 Zei rfl (by decide) rfl rfl rfl rfl (one_99 l) (by omega) (by omega) (fun _ => (by rfl)) (fun r7 c7 => ?_))
  refine gas rfl rfl <| gA <| Zt <| ZC (.inl rfl) Tryz.results88 rfl [0] (by decide) ?_
  exact ⟨r7, c7, by rw [Nat.zero_add], by rw [Nat.zero_add]; rfl⟩
theorem Zoy (l : List Cp) (a : Option Addr) (ca : Nat) (hn : l.length ≤ 100000) (w0 : World) (hsl : OldSl w0 [] a l.length 6 (l.flatMap Cp.cells)) : Sp Tryz.prog 89 [.slice a l.length ca] w0 [] (fun v L => ∃ (r : Option Nat) (cp : Nat), v = .slice (rowA r) l.length cp ∧ L = [.row 113 6 r l.length cp (l.flatMap Cp.cells)]) := by
  refine ZB Tryz.func89 rfl Tryz.ntmps89 rfl (Own.refl _) ?_
  simp only [ZU]
  refine Zc <| Za <| gas rfl rfl <| gA <| Zc <| Zc <| Za <| gm rfl rfl <| gr rfl (Vl eg_43 Tryz.underlying43 rfl rfl) <| Z8 (fun h4 => ?_) (fun h4 => ?_)
  · obtain rfl : a = none := by cases a with
      | none => rfl
      | some ad => cases h4
    obtain rfl : l = [] := by
      cases l with
      | nil => rfl
      | cons z zs => have := hsl.isSome (by simp); cases this
    refine gA <| Zj rfl <| Zc <| Y6 113 6 <| Za <| gas rfl rfl <| gA <| Zt <| Zg <| ZC (.inl rfl) Tryz.results89 rfl [0] (by decide) ?_
    exact ⟨none, 0, rfl, rfl⟩
  refine gA <| Zk rfl <| Zx <| Zf <| Zc <| Za <| Zn (ZX (sz := 6) rfl rfl (fun _ => bs_43_0_) rfl rfl (fun b5 => ?_))
  refine gm rfl rfl <| Zn (Vi 0 hsl Tryz.underlying43 Zah rfl (by decide) rfl rfl rfl rfl (one_113 l) (by omega) (by omega) (fun _ => (by rfl)) (fun r7 c7 => ?_))
  refine gas rfl rfl <| gA <| Zt <| ZC (.inl rfl) Tryz.results89 rfl [0] (by decide) ?_
  exact ⟨r7, c7, by rw [Nat.zero_add], by rw [Nat.zero_add]; rfl⟩
theorem Zco (s : Org) (hle : OrgLe s) (hd : s.ds.length ≤ 6) (hs : s.ss.length ≤ 80) (hc : s.cs.length ≤ 24) (w0 : World) (hS : OrgIn s w0 []) : Sp Tryz.prog 36 [s.val] w0 [] (fun v L => ∃ c : Cl, v = clV s c ∧ L = clH s c) := by
  refine ZB Tryz.func36 rfl Tryz.ntmps36 rfl (Own.refl _) ?_
  simp only [ZU]
  refine Zc <| Za <| Zn (Z7 rfl rfl rfl (fun b1 => ?_))
  refine Zn (ZO VI rfl rfl (fun b2 => ?_))
  refine gA <| Zc <| ZV [0, 1] false 10 rfl <| Zb 0 rfl rfl ⟨[0, 1], by decide, rfl⟩ (Ze (Zd rfl (WB _))) ?_
  refine Zb 1 rfl rfl ⟨[0, 1], by decide, rfl⟩ (Ze (Zh Tryz.underlying40 rfl rfl (by exact Zq 1 rfl rfl))) ?_
  refine Zb 3 rfl rfl ⟨[0, 1], by decide, rfl⟩ (Ze (Zd rfl (J0 _))) ?_
  refine Zb 4 rfl rfl ⟨[0, 1], by decide, rfl⟩ (Ze (Zh Tryz.underlying42 rfl rfl (by exact Zq 1 rfl rfl))) ?_
  refine Zb 6 rfl rfl ⟨[0, 1], by decide, rfl⟩ (Ze (Zd rfl (J1 _))) ?_
  refine Zb 7 rfl rfl ⟨[0, 1], by decide, rfl⟩ (Ze (Zh Tryz.underlying43 rfl rfl (by exact Zq 1 rfl rfl))) ?_
  refine ZF 2 rfl (.inr ⟨[0, 1], by decide, rfl⟩) (ZD rfl (vf := []) (vc := []) rfl rfl Tryz.call87 (fun w1 ho => Zow s.ds s.da s.dc (by omega) w1 (hS.d.at ho)) ?_)
  rintro _ _ ⟨r5, c5, rfl, rfl⟩
  refine ZF 5 rfl (.inr ⟨[1, 2], by decide, rfl⟩) (ZD rfl (vf := []) (vc := []) rfl rfl Tryz.call88 (fun w1 ho => Zox s.ss s.sa s.sc (by omega) w1 (hS.t.at ho)) ?_)
  rintro _ _ ⟨r8, c8, rfl, rfl⟩
  refine ZF 8 rfl (.inr ⟨[2, 3], by decide, rfl⟩) (ZD rfl (vf := []) (vc := []) rfl rfl Tryz.call89 (fun w1 ho => Zoy s.cs s.ca s.cc (by omega) w1 (hS.c.at ho)) ?_)
  rintro _ _ ⟨r11, c11, rfl, rfl⟩
  refine Zb 9 rfl rfl ⟨[3, 4], by decide, rfl⟩ (Ze (ZQ rfl (fun _ => Zj2 _ _ _ _ _ _ _ _ _))) ?_
  refine ZF 10 rfl (.inr ⟨[3, 4], by decide, rfl⟩) (ZA 3 VI rfl rfl rfl rfl rfl rfl (by rfl) ?_)
  refine ZR (.inl (by kernel_rfl)) ?_
  refine Zf <| Zt <| Za1 (.inl rfl) Tryz.results36 (YM Tryz.underlying45 rfl VI rfl (by rfl) (ZH 3 (off := 0) (k := 4) rfl rfl)) [2, 1, 0] (by decide) ?_
  exact ⟨⟨r5, c5, r8, c8, r11, c11⟩, rfl, rfl⟩
namespace Ip
theorem Zdu {s : Org} (h : (Xt s).2 = 0) : s.ds.length ≤ 6 ∧ s.ss.length ≤ 80 ∧ s.cs.length ≤ 24 := by
  have hl : W7 s = false := by
    cases e : W7 s with
    | false => rfl
    | true => unfold Xt at h; rw [if_pos e] at h; cases h
  unfold W7 at hl
  simp at hl
  omega
abbrev mkS (s : Org) : List Nat := [s.ds.length, s.ss.length, s.cs.length]
theorem OrgIn.out {s : Org} {w0 w : World} {A T : List HL} (h : OrgIn s w0 []) (ho : Own w0 [] w (A ++ T)) : OrgIn s w (T.filterMap HL.block) :=
  ⟨h.d.atTail ho (by decide), h.r.atTail ho (by decide), h.t.atTail ho (by decide), h.c.atTail ho (by decide), fun x hx => (h.p x hx).atTail ho (by decide)⟩
theorem Zi0 (a : Option Addr) (w : World) : (Instr.makeInterface 33 (.pointer a)).run Tryz.prog w = .ok (.iface 33 (.pointer a)) w := by kernel_rfl
def OpenR (s : Org) (q : SS) (V : Ye) (n : Nat) : Value → List HL → Prop := fun v L =>
  ((Xt s).2 ≠ 0 ∧ v = .tuple #[.pointer none, .int .i64 (Xt s).2] ∧ L = q.hl) ∨
  ((Xt s).2 = 0 ∧ (∃ m old, V 0 = some (m, old) ∧ old ≠ mkS s) ∧ v = .tuple #[.pointer none, .int .i64 6] ∧ L = q.hl) ∨
  ((Xt s).2 = 0 ∧ ∃ (bp : Nat) (c : Cl) (q2 : SS) (V2 : Ye), v = .tuple #[.pointer (some ⟨bp, 0, none⟩), .int .i64 0] ∧ q2.Ok V2 (n + 1) ∧ q.Like q2 ∧ ((∃ m, V 0 = some (m, mkS s) ∧ V2 = V) ∨ (V 0 = none ∧ V2 = Zap V 0 (q.num + 1) (mkS s))) ∧ L = psH s bp q.bs c ++ q2.hl)
theorem SS.Ok.up {q : SS} {V : Ye} {n : Nat} (h : q.Ok V n) : q.Ok V (n + 1) := ⟨h.st, by have := h.pr; omega, by have := h.er; omega, by have := h.num; omega⟩
theorem wrap8 {n : Nat} (h : n < 256) : IntKind.u8.wrap (n : Int) = ((n : Nat) : Int) := Vm h
end Ip
open Ip
theorem Open_okP (q : SS) (V : Ye) (n : Nat) (hq : q.Ok V n) (S : List Nat) (w0 : World) (hown : Own w0 S w0 q.hl) (s : Org) (hle : OrgLe s) (hS : OrgIn s w0 S) (hn : n < 1000000) (h0 : ∀ m, V 0 ≠ some (m, [])) (hcap : V 0 = none → q.m.length < 10 * (q.f.b.length / 256 - 2)) (hleft : q.f.left = -1) : Sp Tryz.prog 12 [.pointer (some ⟨q.bs, 0, none⟩), s.val] w0 S (OpenR s q V n) := by
  refine ZB Tryz.func12 rfl Tryz.ntmps12 rfl hown ?_
  simp only [ZU]
  refine Zc <| Za <| Zn (Z7 rfl rfl rfl (fun b3 => ?_))
  refine gas rfl rfl <| gas rfl rfl <| gA <| Zc <| Zc <| Za <| gr rfl (Zr Tryz.underlying45 rfl VI rfl (by exact ZH 0 (off := 0) (k := 4) rfl rfl) rfl) ?_
  refine Zn (ZD rfl (vf := []) (vc := []) rfl rfl Tryz.call35 (fun w1 ho => Jg s hle w1 (hS.at ho)) ?_)
  rintro _ _ ⟨rfl, rfl⟩
  rw [Zch]
  refine gm rfl rfl <| gr rfl (Zp rfl rfl) <| gr rfl (Zp rfl rfl) <| Zn (ZO Xu rfl rfl (fun b6 => ?_))
  refine Zn (ZA 0 Xu rfl rfl rfl rfl rfl rfl (by rfl) ?_)
  refine gas rfl rfl <| gA <| Zc <| Za <| gm rfl rfl <| gr rfl (ZP rfl rfl) (Zv (fun h21 => ?_) (fun h21 => ?_))
  · refine gA <| Zj rfl <| Zc <| Za <| gm rfl rfl <| gas rfl rfl <| gas rfl rfl <| gA <| Zt <| Zg <| Y1 (.inl rfl) Tryz.results12 rfl rfl (ZJ (A := []) (B := [_, _]) (T := q.hl) [] 2 (by decide) (by decide) rfl rfl) ?_
    exact .inl ⟨h21, rfl, rfl⟩
  have hck : (Xt s).2 = 0 := by omega
  obtain ⟨hnd, hns, hnc⟩ := Zdu hck
  refine gA <| Zk rfl <| Zx <| Zf <| Zc <| Za <| gm rfl rfl <| gr rfl (Ja rfl (Zi0 _)) <| gr rfl (Zr Tryz.underlying45 rfl VI rfl (by exact ZH 1 (off := 0) (k := 4) rfl rfl) rfl) ?_
  refine Zn (ZD rfl (vf := []) (vc := []) rfl rfl Tryz.call36 (fun w1 ho => Zco s hle hnd hns hnc w1 (hS.at ho)) ?_)
  rintro _ _ ⟨c9, rfl, rfl⟩
  refine gr rfl (ZQ rfl (fun _ => JF _ _ _ _ _ _ _ _ _ _ _ _ _ _ _)) ?_
  refine Zn (Z7 rfl rfl rfl (fun b28 => ?_))
  refine gas rfl rfl <| gA <| Zc <| Zc <| Za <| gm rfl rfl <| gnc rfl rfl <| gr rfl (Zd rfl (X3 _)) <| gr rfl (Zh Tryz.underlying50 rfl rfl (by exact Zq 0 rfl rfl)) ?_
  refine Zn <| Xg (rv := (.pointer (some ⟨q.bs, 0, none⟩))) (F := 181) rfl rfl (Zfp _) Tryz.call181 <| (Z6 [_, _, _, _, _, _] q.hl rfl rfl (vf := []) (vc := []) rfl rfl Tryz.call181 rfl (fun w how hc => q_keys q V n hq _ w hc) ?_)
  rintro _ _ ⟨rk, kk, ck, zk, rfl, rfl⟩
  refine gm rfl rfl <| gr rfl (Zp rfl rfl) <| gr rfl (Zp rfl rfl) <| gas rfl rfl <| gas rfl rfl <| gA <| Zc <| Za <| gm rfl rfl <| gr rfl (ZP rfl rfl) (Zv (fun h38 => ?_) (fun h38 => ?_))
  · exact absurd rfl h38
  refine gA <| Zk rfl <| Zx <| Zf <| Zc <| Za <| gm rfl rfl <| gnc rfl rfl <| gr rfl (Zd rfl (X3 _)) <| gr rfl (Zh Tryz.underlying50 rfl rfl (by exact Zq 0 rfl rfl)) ?_
  have hg0 : Wa 0 V = (match V 0 with | none => [] | some p => p.2, 0) := by
    unfold Wa
    rw [if_neg (by omega), show (0 : Int).toNat = 0 from rfl]
    cases V 0 <;> rfl
  obtain ⟨old, hold⟩ : ∃ old, (match V 0 with | none => [] | some p => p.2) = old := ⟨_, rfl⟩
  rw [hold] at hg0
  refine Zn <| Xg (rv := (.pointer (some ⟨q.bs, 0, none⟩))) (F := 180) rfl rfl (m_get _) Tryz.call180 <| (Z6 [_, _, _, _, _, _, _] q.hl rfl rfl (vf := []) (vc := []) rfl rfl Tryz.call180 rfl (fun w how hc => q_get q V n hq _ w hc 0) ?_)
  rintro _ _ ⟨rg, cg, rfl, rfl⟩
  rw [hg0]
  dsimp only
  refine gm rfl rfl <| gr rfl (Zp rfl rfl) <| gr rfl (Zp rfl rfl) <| gas rfl rfl <| gas rfl rfl <| gA <| Zc <| Zc <| Za <| gm rfl rfl <| gr rfl (ZP rfl rfl) (Zv (fun h49 => ?_) (fun h49 => ?_))
  · exact absurd rfl h49
  refine gA <| Zk rfl <| Zx <| Zf <| Zc <| Za <| gr rfl (Zd rfl (WB _)) <| gr rfl (Zh Tryz.underlying40 rfl rfl (by exact Zq 5 rfl rfl)) ?_
  refine gr rfl (ZG Tryz.underlying40 rfl) <| gr rfl (YN Tryz.runUnderlying3 Tryz.runUnderlying5 rfl (wrap8 (by omega))) ?_
  refine gr rfl (Zd rfl (J0 _)) <| gr rfl (Zh Tryz.underlying42 rfl rfl (by exact Zq 5 rfl rfl)) ?_
  refine gr rfl (ZG Tryz.underlying42 rfl) <| gr rfl (YN Tryz.runUnderlying3 Tryz.runUnderlying5 rfl (wrap8 (by omega))) ?_
  refine gr rfl (Zd rfl (J1 _)) <| gr rfl (Zh Tryz.underlying43 rfl rfl (by exact Zq 5 rfl rfl)) ?_
  refine gr rfl (ZG Tryz.underlying43 rfl) <| gr rfl (YN Tryz.runUnderlying3 Tryz.runUnderlying5 rfl (wrap8 (by omega))) ?_
  refine Zn (ZX (sz := 1) rfl rfl (fun _ => Zf5 _ _ _) rfl rfl (fun b63 => ?_))
  refine gas rfl rfl <| gA <| Zc <| ZI <| Zc <| Za <| gm rfl rfl <| gr rfl (ZG Tryz.underlying65 rfl) <| gr rfl (Yr rfl rfl) (Zv (fun h67 => ?_) (fun h67 => ?_))
  · have hol : old = [] := List.eq_nil_of_length_eq_zero (by omega)
    have hv0 : V 0 = none := by
      cases hv : V 0 with
      | none => rfl
      | some p =>
        rw [hv] at hold
        exact absurd (by rw [hv]; show some (p.1, p.2) = _; rw [show p.2 = old from hold, hol]) (h0 p.1)
    refine gas rfl rfl <| gA <| Zj rfl <| Zc <| Za <| gm rfl rfl <| gnc rfl rfl <| gr rfl (Zd rfl (X3 _)) <| gr rfl (Zh Tryz.underlying50 rfl rfl (by exact Zq 1 rfl rfl)) ?_
    refine gm rfl rfl <| Zn <| Xg (rv := (.pointer (some ⟨q.bs, 0, none⟩))) (F := 182) rfl rfl (Zk6 _) Tryz.call182 <| (Z6 [_, _, _, _, _, _, _, _, _] q.hl rfl rfl (vf := []) (vc := []) rfl rfl Tryz.call182 rfl (fun w how hc => Zlb q V n hq _ w hc hn 0 (by decide) (mkS s) (by intro z hz; simp only [List.mem_cons, List.not_mem_nil, or_false] at hz; omega) (show (3 : Nat) ≤ 16 by decide) (some ⟨b63, 0, none⟩) 3 (how.rowSlT (A := [_, _, _, _, _, _, _, _, _]) 0 rfl)) ?_)
    rintro _ _ (⟨⟨_, hf⟩, _⟩ | ⟨_, q2, rfl, hq2, hlk, rfl⟩ | ⟨_, q2, rfl, hlf, _⟩)
    · exact absurd (hcap hv0) (by omega)
    · refine gas rfl rfl <| gA <| Zc <| Za <| gm rfl rfl <| gr rfl (ZP rfl rfl) (Zv (fun h75 => ?_) (fun h75 => ?_))
      · exact absurd rfl h75
      refine gA <| Zk rfl <| Zx <| ZM <| Zf <| Zc <| Za <| gm rfl rfl <| gas rfl rfl <| gas rfl rfl <| gA <| Zt <| Y1 (.inl rfl) Tryz.results12 rfl rfl (ZJ (A := [_, _, _, _]) (B := [_, _, _, _, _, _, _, _, _]) (T := q2.hl) [1, 2, 3, 4] 9 (by decide) (by decide) rfl rfl) ?_
      exact .inr (.inr ⟨hck, b28, c9, q2, _, rfl, hq2, hlk, .inr ⟨hv0, rfl⟩, rfl⟩)
    exact absurd hleft hlf
  obtain ⟨m9, hvm⟩ : ∃ m9, V 0 = some (m9, old) := by
    cases hv : V 0 with
    | none => rw [hv] at hold; subst hold; exact absurd rfl h67
    | some p => rw [hv] at hold; exact ⟨p.1, by rw [← show p.2 = old from hold]⟩
  refine gas rfl rfl <| gA <| Zk rfl <| Zc <| Za <| gm rfl rfl <| gm rfl rfl <| Zn (ZD rfl (vf := []) (vc := []) rfl rfl Tryz.call37 (fun w1 ho => Zov old (mkS s) _ _ _ _ (by have := hq.bytes hvm; omega) w1 (ho.rowSl 8 rfl) (ho.rowSl 0 rfl)) ?_)
  rintro _ _ ⟨rfl, rfl⟩
  refine Z8 (fun h80 => ?_) (fun h80 => ?_)
  · refine gr rfl (rd_not rfl) <| gas rfl rfl <| gA <| Zk rfl <| Zx <| ZM <| Zf <| Zc <| Za <| gm rfl rfl <| gas rfl rfl <| gas rfl rfl <| gA <| Zt <| Y1 (.inl rfl) Tryz.results12 rfl rfl (ZJ (A := [_, _, _, _]) (B := [_, _, _, _, _, _, _, _, _]) (T := q.hl) [1, 2, 3, 4] 9 (by decide) (by decide) rfl rfl) ?_
    exact .inr (.inr ⟨hck, b28, c9, q, V, rfl, hq.up, SS.Like.refl q, .inl ⟨m9, by rw [hvm, of_decide_eq_true h80], rfl⟩, rfl⟩)
  refine gr rfl (rd_not rfl) <| gas rfl rfl <| gA <| Zj rfl <| Zc <| Za <| gas rfl rfl <| gas rfl rfl <| gA <| Zt <| Zy <| Zg <| Y1 (.inl rfl) Tryz.results12 rfl rfl (ZJ (A := []) (B := [_, _, _, _, _, _, _, _, _]) (T := q.hl) [] 9 (by decide) (by decide) rfl rfl) ?_
  exact .inr (.inl ⟨hck, ⟨m9, old, hvm, of_decide_eq_false h80⟩, rfl, rfl⟩)
theorem ty_37 : TyF Tryz.prog 37 (.int .i64 0) 1 8 := TyF.mk' (by kernel_rfl)
namespace Ip
theorem Wz (l : List Nat) : (YL l).map Wb = l.map natV := by unfold YL; rw [List.map_map]; rfl
theorem arr3 (a b c : Int) {k : Nat} (h : k < 3) : (#[.int .i64 a, .int .i64 b, .int .i64 c] : Array Value)[k]? = some (.int .i64 ([a, b, c].getD k 0)) := by
  rcases k with _ | _ | _ | k
  · rfl
  · rfl
  · rfl
  · omega
theorem arr2 (a b : Int) {k : Nat} (h : k < 2) : (#[.int .i64 a, .int .i64 b] : Array Value)[k]? = some (.int .i64 ([a, b].getD k 0)) := by
  rcases k with _ | _ | k
  · rfl
  · rfl
  · omega
def YX : List Int → Int
  | [] => 0
  | e :: l => if e ≠ 0 then e else YX l
theorem VY : ∀ {l : List Int} {k : Nat}, (∀ j, j < k → l.getD j 0 = 0) → l.getD k 0 ≠ 0 → YX l = l.getD k 0
  | [], k, _, h => by simp at h
  | e :: l, 0, _, h => by
    have h : e ≠ 0 := h
    show (if e ≠ 0 then e else YX l) = e
    rw [if_pos h]
  | e :: l, k + 1, h0, h => by
    have h1 : e = 0 := h0 0 (Nat.succ_pos k)
    show (if e ≠ 0 then e else YX l) = l.getD k 0
    rw [if_neg (by omega)]
    exact VY (fun j hj => h0 (j + 1) (by omega)) h
theorem WK : ∀ {l : List Int}, (∀ j, j < l.length → l.getD j 0 = 0) → YX l = 0
  | [], _ => rfl
  | e :: l, h => by
    have h1 : e = 0 := h 0 (by simp)
    show (if e ≠ 0 then e else YX l) = 0
    rw [if_neg (by omega)]
    exact WK fun j hj => h (j + 1) (by simp; omega)
theorem Zmn {q : SS} {V : Ye} {n : Nat} (h : q.Ok V n ∨ q.Stop) : (∃ V n, q.Ok V n) ∨ q.Stop := h.imp (fun h => ⟨V, n, h⟩) id
theorem Zlc (r : Rg) (ns nc : Nat) (hr : RgOk ns nc r) (hns : ns ≤ 80) (hnc : nc ≤ 24) (a1 a2 : Option Addr) (c1 c2 : Nat) (w0 : World) (h1 : OldSl w0 [] a1 r.1.length 1 (r.1.map natV)) (h2 : OldSl w0 [] a2 r.2.length 1 (r.2.map natV)) : Sp Tryz.prog 55 [.agg #[.slice a1 r.1.length c1, .slice a2 r.2.length c2]] w0 [] (fun v L => ∃ b, v = .slice (rowA (some b)) (packR r.1 r.2).length 14 ∧ L = [.row 5 1 (some b) (packR r.1 r.2).length 14 ((packR r.1 r.2).map u8V)]) := by
  refine (pack_okP r.1 r.2 a1 a2 c1 c2 (fun i hi => Nat.lt_of_lt_of_le (hr.sn i hi) hns) (fun i hi => Nat.lt_of_lt_of_le (hr.cn i hi) hnc) (J4 hr hns) (J5 hr hnc) w0 h1 h2).mono ?_
  rintro v L ⟨b, rfl, rfl⟩
  exact ⟨b, by rw [W1], by rw [W1]⟩
def SetR (s : Org) (q : SS) (V : Ye) (n : Nat) (x : Pis) (ss cs : List Int) : Value → List HL → Prop := fun v L =>
  (YX [pnE s.ds.length x, Xf s.ss.length s.cs.length ss cs, q.err] ≠ 0 ∧ v = .int .i64 (YX [pnE s.ds.length x, Xf s.ss.length s.cs.length ss cs, q.err]) ∧ L = q.hl) ∨
  (YX [pnE s.ds.length x, Xf s.ss.length s.cs.length ss cs, q.err] = 0 ∧ q.Ok V n ∧ pnE s.ds.length x = 0 ∧ ∃ r : Rg, ss = YL r.1 ∧ cs = YL r.2 ∧ RgOk s.ss.length s.cs.length r ∧ PutR q V n (keyN x) (packR (Vx s x r).1 (Vx s x r).2) v L)
def ClearR (s : Org) (q : SS) (V : Ye) (n : Nat) (x : Pis) : Value → List HL → Prop := fun v L =>
  (YX [pnE s.ds.length x, q.err] ≠ 0 ∧ v = .int .i64 (YX [pnE s.ds.length x, q.err]) ∧ L = q.hl) ∨
  (YX [pnE s.ds.length x, q.err] = 0 ∧ q.Ok V n ∧ pnE s.ds.length x = 0 ∧ ((Xc V x = none ∧ v = .int .i64 4 ∧ L = q.hl) ∨ ((Xc V x).isSome = true ∧ PutR q V n (keyN x) [] v L)))
def Zi1 (s : Org) (q : SS) (V : Ye) (n : Nat) (x : Pis) (ss cs : List Int) (e : Int) (p : Rg) : Prop :=
  (YX [pnE s.ds.length x, Xf s.ss.length s.cs.length ss cs, q.err] ≠ 0 ∧ e = YX [pnE s.ds.length x, Xf s.ss.length s.cs.length ss cs, q.err] ∧ p = ([], [])) ∨
  (YX [pnE s.ds.length x, Xf s.ss.length s.cs.length ss cs, q.err] = 0 ∧ q.Ok V n ∧ pnE s.ds.length x = 0 ∧ ∃ r : Rg, ss = YL r.1 ∧ cs = YL r.2 ∧ RgOk s.ss.length s.cs.length r ∧ ((Xc V x = none ∧ e = 4 ∧ p = ([], [])) ∨ ∃ k, Xc V x = some k ∧ e = 0 ∧ p = XW s x k r))
def PressR (s : Org) (q : SS) (V : Ye) (n : Nat) (x : Pis) (ss cs : List Int) : Value → List HL → Prop := fun v L =>
  ∃ (e : Int) (p : Rg) (r : Option Nat) (c : Nat) (r2 : Option Nat) (c2 : Nat), v = .tuple #[.agg #[.slice (rowA r) p.1.length c, .slice (rowA r2) p.2.length c2], .int .i64 e] ∧ L = .row 3 1 r p.1.length c (p.1.map natV) :: .row 3 1 r2 p.2.length c2 (p.2.map natV) :: q.hl ∧ Zi1 s q V n x ss cs e p
end Ip
open Ip
theorem Zi2 (q : SS) (V : Ye) (n : Nat) (hq : q.Ok V n ∨ q.Stop) (S : List Nat) (w0 : World) (hown : Own w0 S w0 q.hl) (hn : n < 1000000) (s : Org) (bp : Nat) (hP : PsIn s bp q.bs w0 S) (x : Pis) (ss cs : List Int) (a1 a2 : Option Addr) (c1 c2 : Nat) (hl1 : ss.length ≤ 140737488355328) (hl2 : cs.length ≤ 140737488355328) (h1 : OldSl w0 S a1 ss.length 1 (ss.map Wb)) (h2 : OldSl w0 S a2 cs.length 1 (cs.map Wb)) : Sp Tryz.prog 19 [.pointer (some ⟨bp, 0, none⟩), Pis.val x, .agg #[.slice a1 ss.length c1, .slice a2 cs.length c2]] w0 S (SetR s q V n x ss cs) := by
  have hp := hP.p
  have hns := hP.ns
  have hnc := hP.nc
  refine ZB Tryz.func19 rfl Tryz.ntmps19 rfl hown ?_
  simp only [ZU]
  refine Zc <| Za <| Zn (Z7 rfl rfl rfl (fun b4 => ?_))
  refine Zn (Z7 rfl rfl rfl (fun b5 => ?_))
  refine gas rfl rfl <| gA <| Zc <| Zc <| Za <| gm rfl rfl <| Zn (ZD rfl (vf := []) (vc := []) rfl rfl Tryz.call43 (fun w1 ho => Jp bp true w1 (by have h9 := (hP.at ho).p 0 _ rfl; exact h9)) ?_)
  rintro _ _ ⟨rfl, rfl⟩
  refine gA <| Zk rfl <| Zx <| Zf <| Zc <| Zc <| YI [_, _] q.hl [0, 1] true 9 rfl rfl <| Zb 0 rfl rfl (Zz 0 rfl) (Ze (Zi rfl)) ?_
  refine Zb 1 rfl rfl (Zz 0 rfl) (Ze (Zr Tryz.underlying23 rfl YB rfl (by exact ZH 1 (off := 0) (k := 3) rfl rfl) rfl)) ?_
  refine Zb 2 rfl rfl (Zz 0 rfl) (YE (vf := []) (vc := []) rfl rfl Tryz.call44 (fun w1 ho => Zcl s bp q.bs w1 (hP.at ho) x) (by rintro _ _ ⟨h, _⟩; exact h)) ?_
  refine Zb 3 rfl rfl (Zz 0 rfl) (Ze (Zi rfl)) ?_
  refine Zb 4 rfl rfl (Zz 0 rfl) (Ze (Zr Tryz.underlying26 rfl ZZ rfl (by exact ZH 0 (off := 0) (k := 2) rfl rfl) rfl)) ?_
  refine Zb 5 rfl rfl (Zz 0 rfl) (YE (vf := []) (vc := []) rfl rfl Tryz.call45 (fun w1 ho => WR s bp q.bs w1 (hP.at ho) ss cs a1 a2 c1 c2 hl1 hl2 (h1.at ho) (h2.at ho)) (by rintro _ _ ⟨h, _⟩; exact h)) ?_
  refine Zb 6 rfl rfl (Zz 0 rfl) (Ze (Zi rfl)) ?_
  refine Zb 9 rfl rfl (Zz 0 rfl) (Ze (Zi rfl)) ?_
  refine ZF 7 rfl (.inr (Zz 0 rfl)) (Z6 [_, _] q.hl rfl rfl (vf := []) (vc := []) rfl rfl Tryz.call46 rfl (fun w how hc => Zcn q (Zmn hq) _ w hc s bp (hP.out (A := [_, _]) how)) ?_)
  rintro _ _ ⟨rfl, rfl⟩
  refine Zb 8 rfl rfl (Zz 0 rfl) (Ze (ZQ rfl (fun _ => Zbk _ _ _))) ?_
  refine ZR (.inr (Zz 0 rfl)) ?_
  refine Zf <| ZI <| Z3 (ι := Nat) [(0, _), (4, _), (5, _), (21, _)] (_ :: _ :: q.hl) (fun k => k ≤ 3 ∧ ∀ j, j < k → [pnE s.ds.length x, Xf s.ss.length s.cs.length ss cs, q.err].getD j 0 = 0) (fun k Fr0 => ((22, natV k) :: Fr0)) (fun k Fr0 => Fr0) (fun k => 3 - k) 0 (⟨Nat.zero_le _, fun j h => absurd h (Nat.not_lt_zero j)⟩) ⟨rfl, rfl, rfl, rfl, rfl, trivial⟩ (Zz 0 rfl) ?_
  rintro k ⟨hk, hall⟩
  refine Zc <| Za <| gr rfl (Z5 rfl rfl) (Zv (fun hlt => ?_) (fun hlt => ?_))
  · refine gA <| Zc <| Zj rfl <| Zx <| Zf <| Zc <| ZI <| Zc <| Za <| gr rfl (WV Tryz.underlying119 Tryz.underlying37 ty_37 rfl rfl (by omega) (arr3 _ _ _ (by omega))) ?_
    refine gas rfl rfl <| gA <| Zc <| Za <| gm rfl rfl <| gr rfl (ZP rfl rfl) (Zv (fun hne => ?_) (fun hne => ?_))
    · refine gA <| Zj rfl <| Zc <| Za <| gm rfl rfl <| gas rfl rfl <| gA <| Zt <| Zy <| Zg <| Zg <| Zy <| Zg <| Z0 (.inl rfl) Tryz.results19 rfl (ZJ (A := []) (B := [_, _]) (T := q.hl) [] 2 (by decide) (by decide) rfl rfl) ?_
      have hz := VY hall hne
      exact .inl ⟨by rw [hz]; exact hne, by rw [hz], rfl⟩
    refine gA <| Zk rfl <| Zx <| ZM <| Zf <| Za <| gr rfl (by exact ZN (b := 1) rfl rfl (by omega)) ?_
    refine gm rfl rfl <| ZW <| Zf ?_
    exact Z1 (k + 1) ⟨⟨by omega, fun j hj => by
      rcases Nat.lt_or_eq_of_le (Nat.le_of_lt_succ hj) with h | rfl
      · exact hall j h
      · omega⟩, by omega⟩ ⟨rfl, rfl, rfl, rfl, rfl, trivial⟩ (Zz 0 rfl)
  refine gA <| Zc <| Zk rfl <| Z4 <| Zw <| Zw <| ZK <| Zf <| Zc ?_
  have hz := WK (l := [pnE s.ds.length x, Xf s.ss.length s.cs.length ss cs, q.err]) (fun j hj => hall j (by simp at hj; omega))
  have hx0 : pnE s.ds.length x = 0 := hall 0 (by omega)
  have hr0 : Xf s.ss.length s.cs.length ss cs = 0 := hall 1 (by omega)
  have hq0 : q.err = 0 := hall 2 (by omega)
  have hqo : q.Ok V n := hq.resolve_right (fun h => h.no hq0)
  obtain ⟨r, rfl, rfl, hr⟩ := Zmk hr0
  rw [Yy] at h1 h2
  rw [Wz] at h1 h2
  rw [Yy, Yy]
  have hkN : kyP x = ((keyN x : Nat) : Int) := (Y3 hP.nd hx0).2.2.symm
  have hk9 := Y3 hP.nd hx0
  have hrl1 := J4 hr hns
  have hrl2 := J5 hr hnc
  have hwo := Zat (s := s) x hr
  refine Za <| gm rfl rfl <| gr rfl (Zr Tryz.underlying23 rfl YB rfl (by exact ZH 1 (off := 0) (k := 3) rfl rfl) rfl) ?_
  refine gr rfl (Zr Tryz.underlying26 rfl ZZ rfl (by exact ZH 0 (off := 0) (k := 2) rfl rfl) rfl) ?_
  refine Zn (ZD rfl (vf := []) (vc := []) rfl rfl Tryz.call53 (fun w1 ho => Zcm s bp q.bs w1 (hP.at ho) x r.1 r.2 a1 a2 c1 c2 hr.sn hr.cn hrl1 hrl2 (h1.at ho) (h2.at ho)) ?_)
  rintro _ _ ⟨r1, rd1, r3, rd3, r2, rd2, r4, rd4, rfl, rfl⟩
  refine gm rfl rfl <| gr rfl (Zp rfl rfl) <| gr rfl (Zp rfl rfl) <| Zn (ZO ZZ rfl rfl (fun b9 => ?_))
  refine Zn (ZO ZZ rfl rfl (fun b10 => ?_))
  refine Zn (ZA 1 ZZ rfl rfl rfl rfl rfl rfl (by rfl) ?_)
  refine Zn (ZA 0 ZZ rfl rfl rfl rfl rfl rfl (by rfl) ?_)
  refine gA <| Zc <| ZV [0, 1, 2, 3, 4, 5, 6, 7] true 11 rfl <| Zb 0 rfl rfl ⟨[0, 1, 2, 3, 4, 5, 6, 7], by decide, rfl⟩ (Ze (Zi rfl)) ?_
  refine Zb 1 rfl rfl ⟨[0, 1, 2, 3, 4, 5, 6, 7], by decide, rfl⟩ (Ze (ZL rfl)) ?_
  refine Zb 2 rfl rfl ⟨[0, 1, 2, 3, 4, 5, 6, 7], by decide, rfl⟩ (Ze (Zd rfl (X3 _))) ?_
  refine Zb 3 rfl rfl ⟨[0, 1, 2, 3, 4, 5, 6, 7], by decide, rfl⟩ (Ze (Zh Tryz.underlying50 rfl rfl (Yf hp hP.o (j := 1) rfl))) ?_
  refine Zb 4 rfl rfl ⟨[0, 1, 2, 3, 4, 5, 6, 7], by decide, rfl⟩ (Ze (Zr Tryz.underlying23 rfl YB rfl (by exact ZH 7 (off := 0) (k := 3) rfl rfl) rfl)) ?_
  refine Zb 5 rfl rfl ⟨[0, 1, 2, 3, 4, 5, 6, 7], by decide, rfl⟩ (YE (vf := []) (vc := []) rfl rfl Tryz.call54 (fun w1 ho => Zfq hP.nd x hx0 w1) (by rintro _ _ ⟨h, _⟩; exact h)) ?_
  rw [hkN]
  refine Zb 6 rfl rfl ⟨[0, 1, 2, 3, 4, 5, 6, 7], by decide, rfl⟩ (Ze (Zr Tryz.underlying26 rfl ZZ rfl (by exact ZH 1 (off := 0) (k := 2) rfl rfl) rfl)) ?_
  refine Zb 8 rfl rfl ⟨[0, 1, 2, 3, 4, 5, 6, 7], by decide, rfl⟩ (Ze (Wk rfl)) ?_
  refine Zb 9 rfl rfl ⟨[0, 1, 2, 3, 4, 5, 6, 7], by decide, rfl⟩ (Ze (Zi rfl)) ?_
  refine ZF 7 rfl (.inr ⟨[0, 1, 2, 3, 4, 5, 6, 7], by decide, rfl⟩) (ZD rfl (vf := []) (vc := []) rfl rfl Tryz.call55 (fun w1 ho => Zlc (Vx s x r) _ _ hwo hns hnc _ _ _ _ w1 (ho.rowSl 2 rfl) (ho.rowSl 3 rfl)) ?_)
  rintro _ _ ⟨b9, rfl, rfl⟩
  refine ZF 10 rfl (.inr ⟨[1, 2, 3, 4, 5, 6, 7, 8], by decide, rfl⟩) (Xg (rv := (.pointer (some ⟨q.bs, 0, none⟩))) (F := 182) rfl rfl (Zk6 _) Tryz.call182 ?_)
  refine (Z6 [_, _, _, _, _, _, _, _, _] q.hl rfl rfl (vf := []) (vc := []) rfl rfl Tryz.call182 rfl (fun w how hc => Zlb q V n hqo _ w hc hn (keyN x) (by omega) (packR (Vx s x r).1 (Vx s x r).2) (Zfk _ _) (by rw [W1]; decide) _ _ (how.rowSlT (A := [_, _, _, _, _, _, _, _, _]) 0 rfl)) ?_)
  rintro v9 T9 hput
  refine Zb 11 rfl rfl ⟨[1, 2, 3, 4, 5, 6, 7, 8], by decide, rfl⟩ (Ze (ZS rfl)) ?_
  refine ZR (.inr ⟨[1, 2, 3, 4, 5, 6, 7, 8], by decide, rfl⟩) ?_
  refine Zf <| Zt <| Z0 (.inl rfl) Tryz.results19 rfl (ZJ (A := []) (B := [_, _, _, _, _, _, _, _, _]) (T := T9) [] 9 (by decide) (by decide) rfl rfl) ?_
  exact .inr ⟨hz, hqo, hx0, r, rfl, rfl, hr, hput⟩
theorem Zhf (q : SS) (V : Ye) (n : Nat) (hq : q.Ok V n ∨ q.Stop) (S : List Nat) (w0 : World) (hown : Own w0 S w0 q.hl) (hn : n < 1000000) (s : Org) (bp : Nat) (hP : PsIn s bp q.bs w0 S) (x : Pis) : Sp Tryz.prog 20 [.pointer (some ⟨bp, 0, none⟩), Pis.val x] w0 S (ClearR s q V n x) := by
  have hp := hP.p
  have hns := hP.ns
  have hnc := hP.nc
  refine ZB Tryz.func20 rfl Tryz.ntmps20 rfl hown ?_
  simp only [ZU]
  refine Zc <| Za <| Zn (Z7 rfl rfl rfl (fun b3 => ?_))
  refine gas rfl rfl <| gA <| Zc <| Zc <| Za <| gm rfl rfl <| Zn (ZD rfl (vf := []) (vc := []) rfl rfl Tryz.call43 (fun w1 ho => Jp bp true w1 (by have h9 := (hP.at ho).p 0 _ rfl; exact h9)) ?_)
  rintro _ _ ⟨rfl, rfl⟩
  refine gA <| Zk rfl <| Zx <| Zf <| Zc <| Zc <| Za <| gm rfl rfl <| gr rfl (Zr Tryz.underlying23 rfl YB rfl (by exact ZH 0 (off := 0) (k := 3) rfl rfl) rfl) ?_
  refine Zn (ZD rfl (vf := []) (vc := []) rfl rfl Tryz.call44 (fun w1 ho => Zcl s bp q.bs w1 (hP.at ho) x) ?_)
  rintro _ _ ⟨rfl, rfl⟩
  refine gm rfl rfl <| Zn (Z6 [_] q.hl rfl rfl (vf := []) (vc := []) rfl rfl Tryz.call46 rfl (fun w how hc => Zcn q (Zmn hq) _ w hc s bp (hP.out (A := [_]) how)) ?_)
  rintro _ _ ⟨rfl, rfl⟩
  refine gr rfl (ZQ rfl (fun _ => Zer _ _)) ?_
  refine gm rfl rfl <| gA <| ZI <| Z3 (ι := Nat) [(0, _), (3, _), (16, _)] (_ :: q.hl) (fun k => k ≤ 2 ∧ ∀ j, j < k → [pnE s.ds.length x, q.err].getD j 0 = 0) (fun k Fr0 => ((17, natV k) :: Fr0)) (fun k Fr0 => Fr0) (fun k => 2 - k) 0 (⟨Nat.zero_le _, fun j h => absurd h (Nat.not_lt_zero j)⟩) ⟨rfl, rfl, rfl, rfl, trivial⟩ (Zz 0 rfl) ?_
  rintro k ⟨hk, hall⟩
  refine Zc <| Za <| gr rfl (Z5 rfl rfl) (Zv (fun hlt => ?_) (fun hlt => ?_))
  · refine gA <| Zc <| Zj rfl <| Zx <| Zf <| Zc <| ZI <| Zc <| Za <| gr rfl (WV Tryz.underlying125 Tryz.underlying37 ty_37 rfl rfl (by omega) (arr2 _ _ (by omega))) ?_
    refine gas rfl rfl <| gA <| Zc <| Za <| gm rfl rfl <| gr rfl (ZP rfl rfl) (Zv (fun hne => ?_) (fun hne => ?_))
    · refine gA <| Zj rfl <| Zc <| Za <| gm rfl rfl <| gas rfl rfl <| gA <| Zt <| Zy <| Zg <| Zg <| Zy <| Zg <| Z0 (.inl rfl) Tryz.results20 rfl (ZJ (A := []) (B := [_]) (T := q.hl) [] 1 (by decide) (by decide) rfl rfl) ?_
      have hz := VY hall hne
      exact .inl ⟨by rw [hz]; exact hne, by rw [hz], rfl⟩
    refine gA <| Zk rfl <| Zx <| ZM <| Zf <| Za <| gr rfl (by exact ZN (b := 1) rfl rfl (by omega)) ?_
    refine gm rfl rfl <| ZW <| Zf ?_
    exact Z1 (k + 1) ⟨⟨by omega, fun j hj => by
      rcases Nat.lt_or_eq_of_le (Nat.le_of_lt_succ hj) with h | rfl
      · exact hall j h
      · omega⟩, by omega⟩ ⟨rfl, rfl, rfl, rfl, trivial⟩ (Zz 0 rfl)
  refine gA <| Zc <| Zk rfl <| Z4 <| Zw <| Zw <| ZK <| Zf <| Zc <| Zc ?_
  have hz := WK (l := [pnE s.ds.length x, q.err]) (fun j hj => hall j (by simp at hj; omega))
  have hx0 : pnE s.ds.length x = 0 := hall 0 (by omega)
  have hq0 : q.err = 0 := hall 1 (by omega)
  have hqo : q.Ok V n := hq.resolve_right (fun h => h.no hq0)
  have hkN : kyP x = ((keyN x : Nat) : Int) := (Y3 hP.nd hx0).2.2.symm
  have hk9 := Y3 hP.nd hx0
  refine Za <| gm rfl rfl <| gr rfl (Zr Tryz.underlying23 rfl YB rfl (by exact ZH 0 (off := 0) (k := 3) rfl rfl) rfl) ?_
  refine Zn (Z6 [_] q.hl rfl rfl (vf := []) (vc := []) rfl rfl Tryz.call47 rfl (fun w how hc => JV q V n hqo _ w hc s bp (hP.out (A := [_]) how) x hx0) ?_)
  rintro _ _ ⟨kr, kc, kr2, kc2, rfl, rfl⟩
  refine gm rfl rfl <| gr rfl (Zp rfl rfl) <| gr rfl (Zp rfl rfl) <| Z8 (fun hks => ?_) (fun hks => ?_)
  · refine Zn (ZO ZZ rfl rfl (fun b7 => ?_))
    refine Zn (ZA 0 ZZ rfl rfl rfl rfl rfl rfl (by rfl) ?_)
    refine gas rfl rfl <| gA <| Zc <| Za <| gm rfl rfl <| gr rfl (rd_not rfl) <| gA <| Zk rfl <| Zx <| Zf <| Zc <| ZV [0, 1, 2, 3] true 9 rfl <| Zb 0 rfl rfl ⟨[0, 1, 2, 3], by decide, rfl⟩ (Ze (Zi rfl)) ?_
    refine Zb 1 rfl rfl ⟨[0, 1, 2, 3], by decide, rfl⟩ (Ze (ZL rfl)) ?_
    refine Zb 2 rfl rfl ⟨[0, 1, 2, 3], by decide, rfl⟩ (Ze (Zd rfl (X3 _))) ?_
    refine Zb 3 rfl rfl ⟨[0, 1, 2, 3], by decide, rfl⟩ (Ze (Zh Tryz.underlying50 rfl rfl (Yf hp hP.o (j := 1) rfl))) ?_
    refine Zb 4 rfl rfl ⟨[0, 1, 2, 3], by decide, rfl⟩ (Ze (Zr Tryz.underlying23 rfl YB rfl (by exact ZH 1 (off := 0) (k := 3) rfl rfl) rfl)) ?_
    refine Zb 5 rfl rfl ⟨[0, 1, 2, 3], by decide, rfl⟩ (YE (vf := []) (vc := []) rfl rfl Tryz.call54 (fun w1 ho => Zfq hP.nd x hx0 w1) (by rintro _ _ ⟨h, _⟩; exact h)) ?_
    rw [hkN]
    refine Zb 6 rfl rfl ⟨[0, 1, 2, 3], by decide, rfl⟩ (Ze (Wk rfl)) ?_
    refine Zb 7 rfl rfl ⟨[0, 1, 2, 3], by decide, rfl⟩ (Ze (Zi rfl)) ?_
    refine ZF 8 rfl (.inr ⟨[0, 1, 2, 3], by decide, rfl⟩) (Xg (rv := (.pointer (some ⟨q.bs, 0, none⟩))) (F := 182) rfl rfl (Zk6 _) Tryz.call182 ?_)
    refine (Z6 [_, _, _, _] q.hl rfl rfl (vf := []) (vc := []) rfl rfl Tryz.call182 rfl (fun w how hc => Zlb q V n hqo _ w hc hn (keyN x) (by omega) [] (by simp) (by simp) none 0 (XN _ _ _)) ?_)
    rintro v9 T9 hput
    refine Zb 9 rfl rfl ⟨[0, 1, 2, 3], by decide, rfl⟩ (Ze (ZS rfl)) ?_
    refine ZR (.inr ⟨[0, 1, 2, 3], by decide, rfl⟩) ?_
    refine Zf <| Zt <| Z0 (.inl rfl) Tryz.results20 rfl (ZJ (A := []) (B := [_, _, _, _]) (T := T9) [] 4 (by decide) (by decide) rfl rfl) ?_
    exact .inr ⟨hz, hqo, hx0, .inr ⟨hks, hput⟩⟩
  refine Zn (ZO ZZ rfl rfl (fun b7 => ?_))
  refine Zn (ZA 0 ZZ rfl rfl rfl rfl rfl rfl (by rfl) ?_)
  refine gas rfl rfl <| gA <| Zc <| Za <| gm rfl rfl <| gr rfl (rd_not rfl) <| gA <| Zj rfl <| Zc <| Za <| gas rfl rfl <| gA <| Zt <| Zg <| Z0 (.inl rfl) Tryz.results20 rfl (ZJ (A := []) (B := [_, _, _, _]) (T := q.hl) [] 4 (by decide) (by decide) rfl rfl) ?_
  exact .inr ⟨hz, hqo, hx0, .inl ⟨by simpa using hks, rfl, rfl⟩⟩
theorem Zcp (q : SS) (V : Ye) (n : Nat) (hq : q.Ok V n ∨ q.Stop) (S : List Nat) (w0 : World) (hown : Own w0 S w0 q.hl) (hn : n < 1000000) (s : Org) (bp : Nat) (hP : PsIn s bp q.bs w0 S) (x : Pis) (hkv : pnE s.ds.length x = 0 → ∀ r, Xc V x = some r → RgOk s.ss.length s.cs.length r) (ss cs : List Int) (a1 a2 : Option Addr) (c1 c2 : Nat) (hl1 : ss.length ≤ 140737488355328) (hl2 : cs.length ≤ 140737488355328) (h1 : OldSl w0 S a1 ss.length 1 (ss.map Wb)) (h2 : OldSl w0 S a2 cs.length 1 (cs.map Wb)) : Sp Tryz.prog 16 [.pointer (some ⟨bp, 0, none⟩), Pis.val x, .agg #[.slice a1 ss.length c1, .slice a2 cs.length c2]] w0 S (PressR s q V n x ss cs) := by
  have hp := hP.p
  have hns := hP.ns
  have hnc := hP.nc
  refine ZB Tryz.func16 rfl Tryz.ntmps16 rfl hown ?_
  simp only [ZU]
  refine Zc <| Za <| Zn (Z7 rfl rfl rfl (fun b4 => ?_))
  refine Zn (Z7 rfl rfl rfl (fun b5 => ?_))
  refine Zn (ZO ZZ rfl rfl (fun b6 => ?_))
  refine gas rfl rfl <| gA <| Zc <| Zc <| Za <| gm rfl rfl <| Zn (ZD rfl (vf := []) (vc := []) rfl rfl Tryz.call43 (fun w1 ho => Jp bp true w1 (by have h9 := (hP.at ho).p 0 _ rfl; exact h9)) ?_)
  rintro _ _ ⟨rfl, rfl⟩
  refine gA <| Zk rfl <| Zx <| Zf <| Zc <| Zc <| YI [_, _, _] q.hl [0, 1, 2] true 9 rfl rfl <| Zb 0 rfl rfl (Zz 0 rfl) (Ze (Zi rfl)) ?_
  refine Zb 1 rfl rfl (Zz 0 rfl) (Ze (Zr Tryz.underlying23 rfl YB rfl (by exact ZH 2 (off := 0) (k := 3) rfl rfl) rfl)) ?_
  refine Zb 2 rfl rfl (Zz 0 rfl) (YE (vf := []) (vc := []) rfl rfl Tryz.call44 (fun w1 ho => Zcl s bp q.bs w1 (hP.at ho) x) (by rintro _ _ ⟨h, _⟩; exact h)) ?_
  refine Zb 3 rfl rfl (Zz 0 rfl) (Ze (Zi rfl)) ?_
  refine Zb 4 rfl rfl (Zz 0 rfl) (Ze (Zr Tryz.underlying26 rfl ZZ rfl (by exact ZH 1 (off := 0) (k := 2) rfl rfl) rfl)) ?_
  refine Zb 5 rfl rfl (Zz 0 rfl) (YE (vf := []) (vc := []) rfl rfl Tryz.call45 (fun w1 ho => WR s bp q.bs w1 (hP.at ho) ss cs a1 a2 c1 c2 hl1 hl2 (h1.at ho) (h2.at ho)) (by rintro _ _ ⟨h, _⟩; exact h)) ?_
  refine Zb 6 rfl rfl (Zz 0 rfl) (Ze (Zi rfl)) ?_
  refine Zb 9 rfl rfl (Zz 0 rfl) (Ze (Zi rfl)) ?_
  refine ZF 7 rfl (.inr (Zz 0 rfl)) (Z6 [_, _, _] q.hl rfl rfl (vf := []) (vc := []) rfl rfl Tryz.call46 rfl (fun w how hc => Zcn q (Zmn hq) _ w hc s bp (hP.out (A := [_, _, _]) how)) ?_)
  rintro _ _ ⟨rfl, rfl⟩
  refine Zb 8 rfl rfl (Zz 0 rfl) (Ze (ZQ rfl (fun _ => Zbk _ _ _))) ?_
  refine ZR (.inr (Zz 0 rfl)) ?_
  refine Zf <| ZI <| Z3 (ι := Nat) [(0, _), (4, _), (5, _), (6, _), (23, _)] (_ :: _ :: _ :: q.hl) (fun k => k ≤ 3 ∧ ∀ j, j < k → [pnE s.ds.length x, Xf s.ss.length s.cs.length ss cs, q.err].getD j 0 = 0) (fun k Fr0 => ((24, natV k) :: Fr0)) (fun k Fr0 => Fr0) (fun k => 3 - k) 0 (⟨Nat.zero_le _, fun j h => absurd h (Nat.not_lt_zero j)⟩) ⟨rfl, rfl, rfl, rfl, rfl, rfl, trivial⟩ (Zz 0 rfl) ?_
  rintro k ⟨hk, hall⟩
  refine Zc <| Za <| gr rfl (Z5 rfl rfl) (Zv (fun hlt => ?_) (fun hlt => ?_))
  · refine gA <| Zc <| Zj rfl <| Zx <| Zf <| Zc <| ZI <| Zc <| Za <| gr rfl (WV Tryz.underlying119 Tryz.underlying37 ty_37 rfl rfl (by omega) (arr3 _ _ _ (by omega))) ?_
    refine gas rfl rfl <| gA <| Zc <| Za <| gm rfl rfl <| gr rfl (ZP rfl rfl) (Zv (fun hne => ?_) (fun hne => ?_))
    · refine gA <| Zj rfl <| Zc <| Y6 3 1 <| Y6 3 1 <| Za <| gr rfl (ZQ rfl (fun _ => Zep)) ?_
      refine gm rfl rfl <| Zn (ZA 2 ZZ rfl rfl rfl rfl rfl rfl (by rfl) ?_)
      refine gas rfl rfl <| gA <| Zt <| Zy <| Zg <| Zg <| Zy <| Zg <| VH (.inl rfl) Tryz.results16 (YM Tryz.underlying26 rfl ZZ rfl (by rfl) (ZH 2 (off := 0) (k := 2) rfl rfl)) (Xd rfl) (ZJ (A := [_, _]) (B := [_, _, _, _, _]) (T := q.hl) [0, 1] 5 (by decide) (by decide) rfl rfl) ?_
      have hz := VY hall hne
      exact ⟨_, ([], []), none, 0, none, 0, rfl, rfl, .inl ⟨by rw [hz]; exact hne, by rw [hz], rfl⟩⟩
    refine gA <| Zk rfl <| Zx <| ZM <| Zf <| Za <| gr rfl (by exact ZN (b := 1) rfl rfl (by omega)) ?_
    refine gm rfl rfl <| ZW <| Zf ?_
    exact Z1 (k + 1) ⟨⟨by omega, fun j hj => by
      rcases Nat.lt_or_eq_of_le (Nat.le_of_lt_succ hj) with h | rfl
      · exact hall j h
      · omega⟩, by omega⟩ ⟨rfl, rfl, rfl, rfl, rfl, rfl, trivial⟩ (Zz 0 rfl)
  refine gA <| Zc <| Zk rfl <| Z4 <| Zw <| Zw <| ZK <| Zf <| Zc ?_
  have hz := WK (l := [pnE s.ds.length x, Xf s.ss.length s.cs.length ss cs, q.err]) (fun j hj => hall j (by simp at hj; omega))
  have hx0 : pnE s.ds.length x = 0 := hall 0 (by omega)
  have hr0 : Xf s.ss.length s.cs.length ss cs = 0 := hall 1 (by omega)
  have hq0 : q.err = 0 := hall 2 (by omega)
  have hqo : q.Ok V n := hq.resolve_right (fun h => h.no hq0)
  obtain ⟨r, rfl, rfl, hr⟩ := Zmk hr0
  rw [Yy] at h1 h2
  rw [Wz] at h1 h2
  rw [Yy, Yy]
  have hkN : kyP x = ((keyN x : Nat) : Int) := (Y3 hP.nd hx0).2.2.symm
  have hk9 := Y3 hP.nd hx0
  have hrl1 := J4 hr hns
  have hrl2 := J5 hr hnc
  have hwo := Zat (s := s) x hr
  refine Za <| gm rfl rfl <| gr rfl (Zr Tryz.underlying23 rfl YB rfl (by exact ZH 2 (off := 0) (k := 3) rfl rfl) rfl) ?_
  refine Zn (Z6 [_, _, _] q.hl rfl rfl (vf := []) (vc := []) rfl rfl Tryz.call47 rfl (fun w how hc => JV q V n hqo _ w hc s bp (hP.out (A := [_, _, _]) how) x hx0) ?_)
  rintro _ _ ⟨kr, kc, kr2, kc2, rfl, rfl⟩
  refine gm rfl rfl <| gr rfl (Zp rfl rfl) <| gr rfl (Zp rfl rfl) <| Z8 (fun hks => ?_) (fun hks => ?_)
  · obtain ⟨kp, hkp⟩ := Option.isSome_iff_exists.1 hks
    have hko := hkv hx0 kp hkp
    have hkD : kD V x = kp := by unfold kD; rw [hkp]; rfl
    rw [hkD]
    refine Zn (ZO ZZ rfl rfl (fun b10 => ?_))
    refine Zn (ZA 0 ZZ rfl rfl rfl rfl rfl rfl (by rfl) ?_)
    refine gas rfl rfl <| gA <| Zc <| Zc <| Za <| gm rfl rfl <| gr rfl (rd_not rfl) <| gA <| Zk rfl <| Zx <| Zf <| Zc <| Za <| gm rfl rfl <| gr rfl (Zr Tryz.underlying23 rfl YB rfl (by exact ZH 3 (off := 0) (k := 3) rfl rfl) rfl) ?_
    refine gr rfl (Zr Tryz.underlying26 rfl ZZ rfl (by exact ZH 0 (off := 0) (k := 2) rfl rfl) rfl) ?_
    refine gr rfl (Zr Tryz.underlying26 rfl ZZ rfl (by exact ZH 2 (off := 0) (k := 2) rfl rfl) rfl) ?_
    refine Zn (ZD rfl (vf := []) (vc := []) rfl rfl Tryz.call48 (fun w1 ho => Zfr s bp q.bs w1 (hP.at ho) x kp r hko hr (rowA kr) (rowA kr2) a1 a2 kc kc2 c1 c2 (ho.rowSl 4 rfl) (ho.rowSl 5 rfl) (h1.at ho) (h2.at ho)) ?_)
    rintro _ _ ⟨rS, cS, rC, cC, rfl, rfl⟩
    refine Zn (ZA 3 ZZ rfl rfl rfl rfl rfl rfl (by rfl) ?_)
    refine gas rfl rfl <| gA <| Zt <| VH (.inl rfl) Tryz.results16 (YM Tryz.underlying26 rfl ZZ rfl (by rfl) (ZH 3 (off := 0) (k := 2) rfl rfl)) (Xd rfl) (ZJ (A := [_, _]) (B := [_, _, _, _, _, _, _, _]) (T := q.hl) [0, 1] 8 (by decide) (by decide) rfl rfl) ?_
    exact ⟨0, XW s x kp r, rS, cS, rC, cC, rfl, rfl, .inr ⟨hz, hqo, hx0, r, rfl, rfl, hr, .inr ⟨kp, hkp, rfl, rfl⟩⟩⟩
  have hkn : Xc V x = none := by simpa using hks
  refine Zn (ZO ZZ rfl rfl (fun b10 => ?_))
  refine Zn (ZA 0 ZZ rfl rfl rfl rfl rfl rfl (by rfl) ?_)
  refine gas rfl rfl <| gA <| Zc <| Zc <| Za <| gm rfl rfl <| gr rfl (rd_not rfl) <| gA <| Zj rfl <| Zc <| Y6 3 1 <| Y6 3 1 <| Za <| gr rfl (ZQ rfl (fun _ => Zep)) ?_
  refine Zn (ZA 3 ZZ rfl rfl rfl rfl rfl rfl (by rfl) ?_)
  refine gas rfl rfl <| gA <| Zt <| Zg <| VH (.inl rfl) Tryz.results16 (YM Tryz.underlying26 rfl ZZ rfl (by rfl) (ZH 3 (off := 0) (k := 2) rfl rfl)) (Xd rfl) (ZJ (A := [_, _]) (B := [_, _, _, _, _, _, _, _]) (T := q.hl) [0, 1] 8 (by decide) (by decide) rfl rfl) ?_
  exact ⟨4, ([], []), none, 0, none, 0, rfl, rfl, .inr ⟨hz, hqo, hx0, r, rfl, rfl, hr, .inl ⟨hkn, rfl, rfl⟩⟩⟩
namespace Ip
def SS.cap (q : SS) : Nat := 10 * (q.f.b.length / 256 - 2)
theorem SS.Like.cap {q q2 : SS} (h : q.Like q2) : q2.cap = q.cap := by unfold SS.cap; rw [h.len]
structure PSt (s : Org) (q : SS) (V : Ye) (n : Nat) (U : List Pis) (L : List (Pis × Rg)) : Prop where
  ok : q.Ok V n
  pr : PR s.ds.length s.ss.length s.cs.length V U L
section
variable {s : Org} {q : SS} {V : Ye} {n : Nat} {U : List Pis} {L : List (Pis × Rg)}
theorem PSt.mlen (h : PSt s q V n U L) : q.m.length = U.length + 1 := by
  have hk : ∀ k, k ∈ (plain q.m).map En.key ↔ V k ≠ none := fun k => by
    constructor
    · intro hk
      obtain ⟨x, hx⟩ := Option.isSome_iff_exists.1 (Zbs hk)
      rw [(h.ok.st.si.so k x hx).2.2]; simp
    · intro hv
      cases e : Yx k (plain q.m) with
      | none => exact absurd (h.ok.st.si.no k e) hv
      | some y => exact Zkw e
  have := h.pr.count h.ok.st.si.nd hk
  simpa [plain] using this
theorem PSt.full (h : PSt s q V n U L) {x : Pis} (hx : pnE s.ds.length x = 0) : Zhd V (keyN x) (10 * (q.f.b.length / 256 - 2)) q.m.length ↔ Zac q.cap U x := by
  unfold Zhd Zac SS.cap
  rw [h.pr.v1 x hx, h.mlen]
theorem PSt.kept (h : PSt s q V n U L) {x : Pis} (hx : pnE s.ds.length x = 0) : Xc V x = Wx L x := h.pr.kept hx
theorem PSt.rg (h : PSt s q V n U L) {x : Pis} (hx : pnE s.ds.length x = 0) {r : Rg} (hk : Xc V x = some r) : RgOk s.ss.length s.cs.length r := by
  rw [h.kept hx, place_is h.pr.srt] at hk
  exact (h.pr.lok _ hk).2
theorem kept_rg {V : Ye} {x : Pis} {r : Rg} (h : Xc V x = some r) : RgOk 80 24 r := by
  rw [Ziz] at h
  split at h
  · cases h
    exact ⟨W2 _ _, W2 _ _, Zla, Zla⟩
  · cases h
theorem SS.Ok.mono {q : SS} {V : Ye} {n m : Nat} (h : q.Ok V n) (hm : n ≤ m) : q.Ok V m := ⟨h.st, Nat.le_trans h.pr (Nat.mul_le_mul_left _ hm), Nat.le_trans h.er hm, Nat.le_trans h.num hm⟩
theorem PSt.mono (h : PSt s q V n U L) {m : Nat} (hm : n ≤ m) : PSt s q V m U L := ⟨h.ok.mono hm, h.pr⟩
theorem SS.Torn.mono {q : SS} {V V2 : Ye} {n m : Nat} (h : q.Torn n V V2) (hm : n ≤ m) : q.Torn m V V2 := by
  obtain ⟨V', N, h1, h2⟩ := h.fi
  exact ⟨h.ok, h.dn, ⟨V', N, Nat.le_trans h1 hm, h2⟩, h.sp, Nat.le_trans h.pr (Nat.mul_le_mul_left _ hm), Nat.le_trans h.er hm⟩
end
theorem Zbx {w0 w : World} {S : List Nat} {A T : List HL} (ho : Own w0 S w (A ++ T)) {ad : Addr} {v : Value} (hc : w0.cell? ad = some v) (hS : ad.block ∉ S) : w.cell? ad = some v ∧ ad.block ∉ T.filterMap HL.block := by
  refine ⟨ho.cellOld hc hS, fun hb => ?_⟩
  obtain ⟨x, hx, hxb⟩ := List.mem_filterMap.1 hb
  rcases ho.place x (List.mem_append_right _ hx) _ hxb with h1 | h1
  · exact hS h1
  · have := Zhv hc
    omega
end Ip
open Ip
theorem Zns (s : Org) (bp bs : Nat) (S : List Nat) (w0 : World) (hP : PsIn s bp bs w0 S) (lv : Int) (gf : FuncId) (caps : List Value) (hcall : ∀ args w, (callFunc gf args).run Tryz.prog w = .ok (.enter gf args) w) (I : Nat → List HL → Prop) (Er : Int → List HL → Prop) (hstep : ∀ (i : Nat) (x : Pis) (L : List HL) (w : World), (XD s.ds.length lv)[i]? = some x → I i L → Own w0 S w L → Sp Tryz.prog gf (Pis.val x :: caps) w (L.filterMap HL.block) (fun v L' => (v = .int .i64 0 ∧ I (i + 1) L') ∨ ∃ e : Int, e ≠ 0 ∧ v = .int .i64 e ∧ Er e L')) (L0 : List HL) (hI0 : I 0 L0) (hown : Own w0 S w0 L0) : Sp Tryz.prog 56 [.pointer (some ⟨bp, 0, none⟩), .int .i64 lv, .func (.func gf) ([] : List Value).toArray (caps : List Value).toArray] w0 S (fun v L => (v = .int .i64 0 ∧ I (XD s.ds.length lv).length L) ∨ ∃ e : Int, e ≠ 0 ∧ v = .int .i64 e ∧ Er e L) := by
  have hp2 := hP.sp
  have hnd := hP.nd
  refine ZB Tryz.func56 rfl Tryz.ntmps56 rfl hown ?_
  simp only [ZU]
  refine Zc <| Za <| gas rfl rfl <| gA <| Zc <| Zc <| Za <| gm rfl rfl <| gnc rfl rfl <| gr rfl (Zd rfl (Jd _)) <| gr rfl (Zd rfl (WB _)) <| gr rfl (Zh Tryz.underlying40 rfl rfl (Yf hp2 hP.o (j := 0) rfl)) <| gr rfl (ZG Tryz.underlying40 rfl) <| gr rfl (by exact ZN (a := 1) rfl rfl (by omega)) ?_
  refine gm rfl rfl <| gA <| ZI <| Z3 (ι := Nat × List HL) [(1, _), (2, _), (17, _)] [] (fun q => q.1 ≤ s.ds.length + 1 ∧ I (Zau q.1 0) q.2) (fun q Fr0 => ((18, natV q.1) :: Fr0)) (fun q Fr0 => (Fr0 ++ q.2)) (fun q => s.ds.length + 1 - q.1) (0, L0) (⟨Nat.zero_le _, hI0⟩) ⟨rfl, rfl, rfl, rfl, trivial⟩ (ZJ (A := []) (B := []) (T := L0) [] 0 (by decide) (by decide) rfl rfl) ?_
  rintro ⟨d, L1⟩ ⟨hd, hI1⟩
  simp only at hd hI1 ⊢
  refine Zc <| Za <| gr rfl (Z5 rfl rfl) (Zv (fun h19 => ?_) (fun h19 => ?_))
  · refine gA <| Zc <| Zj rfl <| Zx <| Zf <| Zc <| ZI <| Zc <| Za <| gm rfl rfl <| gas rfl rfl <| gA <| Zc <| Za <| gas rfl rfl <| gA <| Zc <| Zc <| Za <| gm rfl rfl <| gr rfl (Yr rfl rfl) (Zv (fun h22 => ?_) (fun h22 => ?_))
    · have hd0 : d = 0 := by omega
      have hmd : Wm d = 20 := if_pos hd0
      refine gA <| Zj rfl <| Za <| gas rfl rfl <| gA <| Zc <| Za <| gm rfl rfl <| gm rfl rfl <| gA <| ZI <| Z3 (ι := Nat × List HL) [(1, _), (2, _), (7, _), (17, _), (18, _), (23, _)] [] (fun q => q.1 ≤ Wm d ∧ I (Zau d q.1) q.2) (fun q Fr0 => ((24, natV q.1) :: Fr0)) (fun q Fr0 => (Fr0 ++ q.2)) (fun q => Wm d - q.1) (0, L1) (⟨Nat.zero_le _, hI1⟩) ⟨rfl, rfl, rfl, rfl, rfl, rfl, rfl, trivial⟩ (ZJ (A := []) (B := []) (T := L1) [] 0 (by decide) (by decide) rfl rfl) ?_
      rintro ⟨k, L2⟩ ⟨hk, hI2⟩
      simp only at hk hI2 ⊢
      refine Zc <| Za <| gr rfl (Z5 rfl rfl) (Zv (fun h25 => ?_) (fun h25 => ?_))
      · refine gA <| Zc <| Zj rfl <| Zx <| Zf <| Zc <| ZI <| Zc <| Za <| gm rfl rfl <| gas rfl rfl <| gA <| Zc <| Za <| gm rfl rfl <| gm rfl rfl <| gm rfl rfl <| gr rfl (W3 rfl rfl (by omega) (by omega)) ?_
        refine gm rfl rfl <| gr rfl (WL rfl rfl (by omega) (by omega)) ?_
        refine gr rfl (ZQ rfl (fun _ => Vp _ _ _)) ?_
        refine Zn (Z6 [] L2 rfl rfl (vf := []) (vc := caps) rfl rfl hcall rfl (fun w how hc => hstep _ ⟨lv, _, _⟩ L2 w (Zi3 (by omega) (by omega)) hI2 how) ?_)
        rintro v9 L9 (⟨rfl, hI9⟩ | ⟨e9, he9, rfl, hE9⟩)
        · refine gas rfl rfl <| gA <| Zc <| Za <| gm rfl rfl <| gr rfl (ZP rfl rfl) (Zv (fun h36 => ?_) (fun h36 => ?_))
          · exact absurd rfl h36
          refine gA <| Zk rfl <| Zx <| ZM <| Zf <| Za <| gr rfl (by exact ZN (b := 1) rfl rfl (by omega)) ?_
          refine gm rfl rfl <| ZW <| Zf ?_
          exact Z1 ((k + 1, L9)) ⟨⟨by simp only; omega, by rw [Zhi]; exact hI9⟩, by simp only; omega⟩ ⟨rfl, rfl, rfl, rfl, rfl, rfl, rfl, trivial⟩ (ZJ (A := []) (B := []) (T := L9) [] 0 (by decide) (by decide) rfl rfl)
        refine gas rfl rfl <| gA <| Zc <| Za <| gm rfl rfl <| gr rfl (ZP rfl rfl) (Zv (fun h36 => ?_) (fun h36 => ?_))
        · refine gA <| Zj rfl <| Zc <| Za <| gm rfl rfl <| gas rfl rfl <| gA <| Zt <| Zy <| Zg <| Zg <| Zy <| Zy <| Zg <| Zg <| Zy <| Zg <| Z0 (.inl rfl) Tryz.results56 rfl (ZJ (A := []) (B := []) (T := L9) [] 0 (by decide) (by decide) rfl rfl) ?_
          exact .inr ⟨e9, he9, rfl, hE9⟩
        exact absurd he9 h36
      have hk9 : k = Wm d := by omega
      refine gA <| Zc <| Zk rfl <| Z4 <| Zw <| Zw <| ZK <| ZM <| Zf <| Za <| gr rfl (by exact ZN (b := 1) rfl rfl (by omega)) ?_
      refine gm rfl rfl <| ZW <| Zf ?_
      exact Z1 ((d + 1, L2)) ⟨⟨by simp only; omega, by rw [← Zhj, ← hk9]; exact hI2⟩, by simp only; omega⟩ ⟨rfl, rfl, rfl, rfl, trivial⟩ (ZJ (A := []) (B := []) (T := L2) [] 0 (by decide) (by decide) rfl rfl)
    have hmd : Wm d = 8 := if_neg (by omega)
    refine gA <| Zk rfl <| Zx <| Zf <| Zc <| Za <| gm rfl rfl <| gm rfl rfl <| gA <| ZI <| Z3 (ι := Nat × List HL) [(1, _), (2, _), (7, _), (17, _), (18, _), (23, _)] [] (fun q => q.1 ≤ Wm d ∧ I (Zau d q.1) q.2) (fun q Fr0 => ((24, natV q.1) :: Fr0)) (fun q Fr0 => (Fr0 ++ q.2)) (fun q => Wm d - q.1) (0, L1) (⟨Nat.zero_le _, hI1⟩) ⟨rfl, rfl, rfl, rfl, rfl, rfl, rfl, trivial⟩ (ZJ (A := []) (B := []) (T := L1) [] 0 (by decide) (by decide) rfl rfl) ?_
    rintro ⟨k, L2⟩ ⟨hk, hI2⟩
    simp only at hk hI2 ⊢
    refine Zc <| Za <| gr rfl (Z5 rfl rfl) (Zv (fun h25 => ?_) (fun h25 => ?_))
    · refine gA <| Zc <| Zj rfl <| Zx <| Zf <| Zc <| ZI <| Zc <| Za <| gm rfl rfl <| gas rfl rfl <| gA <| Zc <| Za <| gm rfl rfl <| gm rfl rfl <| gm rfl rfl <| gr rfl (W3 rfl rfl (by omega) (by omega)) ?_
      refine gm rfl rfl <| gr rfl (WL rfl rfl (by omega) (by omega)) ?_
      refine gr rfl (ZQ rfl (fun _ => Vp _ _ _)) ?_
      refine Zn (Z6 [] L2 rfl rfl (vf := []) (vc := caps) rfl rfl hcall rfl (fun w how hc => hstep _ ⟨lv, _, _⟩ L2 w (Zi3 (by omega) (by omega)) hI2 how) ?_)
      rintro v9 L9 (⟨rfl, hI9⟩ | ⟨e9, he9, rfl, hE9⟩)
      · refine gas rfl rfl <| gA <| Zc <| Za <| gm rfl rfl <| gr rfl (ZP rfl rfl) (Zv (fun h36 => ?_) (fun h36 => ?_))
        · exact absurd rfl h36
        refine gA <| Zk rfl <| Zx <| ZM <| Zf <| Za <| gr rfl (by exact ZN (b := 1) rfl rfl (by omega)) ?_
        refine gm rfl rfl <| ZW <| Zf ?_
        exact Z1 ((k + 1, L9)) ⟨⟨by simp only; omega, by rw [Zhi]; exact hI9⟩, by simp only; omega⟩ ⟨rfl, rfl, rfl, rfl, rfl, rfl, rfl, trivial⟩ (ZJ (A := []) (B := []) (T := L9) [] 0 (by decide) (by decide) rfl rfl)
      refine gas rfl rfl <| gA <| Zc <| Za <| gm rfl rfl <| gr rfl (ZP rfl rfl) (Zv (fun h36 => ?_) (fun h36 => ?_))
      · refine gA <| Zj rfl <| Zc <| Za <| gm rfl rfl <| gas rfl rfl <| gA <| Zt <| Zy <| Zg <| Zg <| Zy <| Zy <| Zg <| Zg <| Zy <| Zg <| Z0 (.inl rfl) Tryz.results56 rfl (ZJ (A := []) (B := []) (T := L9) [] 0 (by decide) (by decide) rfl rfl) ?_
        exact .inr ⟨e9, he9, rfl, hE9⟩
      exact absurd he9 h36
    have hk9 : k = Wm d := by omega
    refine gA <| Zc <| Zk rfl <| Z4 <| Zw <| Zw <| ZK <| ZM <| Zf <| Za <| gr rfl (by exact ZN (b := 1) rfl rfl (by omega)) ?_
    refine gm rfl rfl <| ZW <| Zf ?_
    exact Z1 ((d + 1, L2)) ⟨⟨by simp only; omega, by rw [← Zhj, ← hk9]; exact hI2⟩, by simp only; omega⟩ ⟨rfl, rfl, rfl, rfl, trivial⟩ (ZJ (A := []) (B := []) (T := L2) [] 0 (by decide) (by decide) rfl rfl)
  refine gA <| Zc <| Zk rfl <| Z4 <| Zw <| Zw <| ZK <| Zf <| Zc <| Za <| gas rfl rfl <| gA <| Zt <| Z0 (.inl rfl) Tryz.results56 rfl (ZJ (A := []) (B := []) (T := L1) [] 0 (by decide) (by decide) rfl rfl) ?_
  exact .inl ⟨rfl, by rw [← cntA_end lv, ← show d = s.ds.length + 1 by omega]; exact hI1⟩
namespace Ip
def Zby (q : SS) (V : Ye) (n : Nat) (x y : Pis) : Value → List HL → Prop := fun v L => match Xc V x with
  | some r => PutR q V n (keyN y) (packR r.1 r.2) v L
  | none => if (Xc V y).isSome = true then PutR q V n (keyN y) [] v L else v = .int .i64 0 ∧ L = q.hl
end Ip
open Ip
theorem copy1_ok (q : SS) (V : Ye) (n : Nat) (hq : q.Ok V n) (S : List Nat) (w0 : World) (hown : Own w0 S w0 q.hl) (s : Org) (bp : Nat) (hP : PsIn s bp q.bs w0 S) (hn : n < 1000000) (x : Pis) (to : Int) (hx : pnE s.ds.length x = 0) (hy : pnE s.ds.length (atL x to) = 0) (b1 b2 : Nat) (hc1 : w0.cell? ⟨b1, 0, none⟩ = some (.pointer (some ⟨bp, 0, none⟩))) (hs1 : b1 ∉ S) (hc2 : w0.cell? ⟨b2, 0, none⟩ = some (.int .i64 to)) (hs2 : b2 ∉ S) : Sp Tryz.prog 57 [Pis.val x, .pointer (some ⟨b1, 0, none⟩), .pointer (some ⟨b2, 0, none⟩)] w0 S (Zby q V n x (atL x to)) := by
  have hp := hP.p
  have hkN : kyP (atL x to) = ((keyN (atL x to) : Nat) : Int) := (Y3 hP.nd hy).2.2.symm
  have hk9 := Y3 hP.nd hy
  refine ZB Tryz.func57 rfl Tryz.ntmps57 rfl hown ?_
  simp only [ZU]
  refine Zc <| Za <| Zn (Z7 rfl rfl rfl (fun b3 => ?_))
  refine gas rfl rfl <| gA <| Zc <| Za <| gr rfl (Zh Tryz.underlying36 rfl rfl (Vy hc1 hs1)) <| gr rfl (Zr Tryz.underlying23 rfl YB rfl (by exact ZH 0 (off := 0) (k := 3) rfl rfl) rfl) ?_
  refine Zn (Z6 [_] q.hl rfl rfl (vf := []) (vc := []) rfl rfl Tryz.call47 rfl (fun w how hc => JV q V n hq _ w hc s bp (hP.out (A := [_]) how) x hx) ?_)
  rintro _ _ ⟨kr12, kc12, lr12, lc12, rfl, rfl⟩
  refine gm rfl rfl <| gr rfl (Zp rfl rfl) <| gr rfl (Zp rfl rfl) <| Zn (ZO ZZ rfl rfl (fun b5 => ?_))
  refine Zn (ZA 0 ZZ rfl rfl rfl rfl rfl rfl (by rfl) ?_)
  refine gas rfl rfl <| gA <| Zc <| Za <| gr rfl (Zh Tryz.underlying3 rfl rfl (Vy hc2 hs2)) <| gr rfl (Zd rfl (JZ _)) <| Zn (Ya 1 Xz rfl rfl rfl rfl rfl (by rfl) (by rfl) ?_)
  refine gA <| Zc <| Za <| gr rfl (Zh Tryz.underlying36 rfl rfl (Vy hc1 hs1)) <| gr rfl (Zr Tryz.underlying23 rfl YB rfl (by exact ZH 1 (off := 0) (k := 3) rfl rfl) rfl) ?_
  refine Zn (Z6 [_, _, _, _] q.hl rfl rfl (vf := []) (vc := []) rfl rfl Tryz.call47 rfl (fun w how hc => JV q V n hq _ w hc s bp (hP.out (A := [_, _, _, _]) how) (atL x to) hy) ?_)
  rintro _ _ ⟨kr20, kc20, lr20, lc20, rfl, rfl⟩
  refine gm rfl rfl <| gr rfl (Zp rfl rfl) <| gr rfl (Zp rfl rfl) <| Zn (ZO ZZ rfl rfl (fun b7 => ?_))
  refine Zn (ZA 0 ZZ rfl rfl rfl rfl rfl rfl (by rfl) ?_)
  refine gas rfl rfl <| gA <| Zc <| ZI <| Zc <| Za <| gm rfl rfl <| gas rfl rfl <| Z8 (fun h23 => ?_) (fun h23 => ?_)
  · obtain ⟨r, hkr⟩ := Option.isSome_iff_exists.1 h23
    have hkD : kD V x = r := by unfold kD; rw [hkr]; rfl
    rw [hkD]
    have hr := kept_rg hkr
    refine gA <| Zj rfl <| Zc <| ZV [0, 1, 2, 3, 4, 5, 6] true 11 rfl <| Zb 0 rfl rfl ⟨[0, 1, 2, 3, 4, 5, 6], by decide, rfl⟩ (Ze (Zh Tryz.underlying36 rfl rfl (Vy hc1 hs1))) ?_
    refine Zb 1 rfl rfl ⟨[0, 1, 2, 3, 4, 5, 6], by decide, rfl⟩ (Ze (ZL rfl)) ?_
    refine Zb 2 rfl rfl ⟨[0, 1, 2, 3, 4, 5, 6], by decide, rfl⟩ (Ze (Zd rfl (X3 _))) ?_
    refine Zb 3 rfl rfl ⟨[0, 1, 2, 3, 4, 5, 6], by decide, rfl⟩ (Ze (Zh Tryz.underlying50 rfl rfl (Yf hp hP.o (j := 1) rfl))) ?_
    refine Zb 4 rfl rfl ⟨[0, 1, 2, 3, 4, 5, 6], by decide, rfl⟩ (Ze (Zr Tryz.underlying23 rfl YB rfl (by exact ZH 2 (off := 0) (k := 3) rfl rfl) rfl)) ?_
    refine Zb 5 rfl rfl ⟨[0, 1, 2, 3, 4, 5, 6], by decide, rfl⟩ (YE (vf := []) (vc := []) rfl rfl Tryz.call54 (fun w1 ho => Zfq hP.nd (atL x to) hy w1) (by rintro _ _ ⟨h, _⟩; exact h)) ?_
    rw [hkN]
    refine Zb 6 rfl rfl ⟨[0, 1, 2, 3, 4, 5, 6], by decide, rfl⟩ (Ze (Zr Tryz.underlying26 rfl ZZ rfl (by exact ZH 1 (off := 0) (k := 2) rfl rfl) rfl)) ?_
    refine Zb 8 rfl rfl ⟨[0, 1, 2, 3, 4, 5, 6], by decide, rfl⟩ (Ze (Wk rfl)) ?_
    refine Zb 9 rfl rfl ⟨[0, 1, 2, 3, 4, 5, 6], by decide, rfl⟩ (Ze (Zi rfl)) ?_
    refine ZF 7 rfl (.inr ⟨[0, 1, 2, 3, 4, 5, 6], by decide, rfl⟩) (ZD rfl (vf := []) (vc := []) rfl rfl Tryz.call55 (fun w1 ho => Zlc r 80 24 hr (Nat.le_refl _) (Nat.le_refl _) _ _ _ _ w1 (ho.rowSl 3 rfl) (ho.rowSl 4 rfl)) ?_)
    rintro _ _ ⟨b9, rfl, rfl⟩
    refine ZF 10 rfl (.inr ⟨[1, 2, 3, 4, 5, 6, 7], by decide, rfl⟩) (Xg (rv := (.pointer (some ⟨q.bs, 0, none⟩))) (F := 182) rfl rfl (Zk6 _) Tryz.call182 ?_)
    refine (Z6 [_, _, _, _, _, _, _, _] q.hl rfl rfl (vf := []) (vc := []) rfl rfl Tryz.call182 rfl (fun w how hc => Zlb q V n hq _ w hc hn (keyN (atL x to)) (by omega) (packR r.1 r.2) (Zfk _ _) (by rw [W1]; decide) _ _ (how.rowSlT (A := [_, _, _, _, _, _, _, _]) 0 rfl)) ?_)
    rintro v9 T9 hput
    refine Zb 11 rfl rfl ⟨[1, 2, 3, 4, 5, 6, 7], by decide, rfl⟩ (Ze (ZS rfl)) ?_
    refine ZR (.inr ⟨[1, 2, 3, 4, 5, 6, 7], by decide, rfl⟩) ?_
    refine Zf <| Zt <| Zy <| Zg <| Z0 (.inl rfl) Tryz.results57 rfl (ZJ (A := []) (B := [_, _, _, _, _, _, _, _]) (T := T9) [] 8 (by decide) (by decide) rfl rfl) ?_
    show Zby q V n x (atL x to) _ _
    unfold Zby
    rw [hkr]
    exact hput
  have hkn : Xc V x = none := by simpa using h23
  refine gA <| Zk rfl <| Zc <| Za <| gm rfl rfl <| gas rfl rfl <| Z8 (fun h36 => ?_) (fun h36 => ?_)
  · refine gA <| Zj rfl <| Zc <| ZV [0, 1, 2, 3, 4, 5, 6] true 9 rfl <| Zb 0 rfl rfl ⟨[0, 1, 2, 3, 4, 5, 6], by decide, rfl⟩ (Ze (Zh Tryz.underlying36 rfl rfl (Vy hc1 hs1))) ?_
    refine Zb 1 rfl rfl ⟨[0, 1, 2, 3, 4, 5, 6], by decide, rfl⟩ (Ze (ZL rfl)) ?_
    refine Zb 2 rfl rfl ⟨[0, 1, 2, 3, 4, 5, 6], by decide, rfl⟩ (Ze (Zd rfl (X3 _))) ?_
    refine Zb 3 rfl rfl ⟨[0, 1, 2, 3, 4, 5, 6], by decide, rfl⟩ (Ze (Zh Tryz.underlying50 rfl rfl (Yf hp hP.o (j := 1) rfl))) ?_
    refine Zb 4 rfl rfl ⟨[0, 1, 2, 3, 4, 5, 6], by decide, rfl⟩ (Ze (Zr Tryz.underlying23 rfl YB rfl (by exact ZH 2 (off := 0) (k := 3) rfl rfl) rfl)) ?_
    refine Zb 5 rfl rfl ⟨[0, 1, 2, 3, 4, 5, 6], by decide, rfl⟩ (YE (vf := []) (vc := []) rfl rfl Tryz.call54 (fun w1 ho => Zfq hP.nd (atL x to) hy w1) (by rintro _ _ ⟨h, _⟩; exact h)) ?_
    rw [hkN]
    refine Zb 6 rfl rfl ⟨[0, 1, 2, 3, 4, 5, 6], by decide, rfl⟩ (Ze (Wk rfl)) ?_
    refine Zb 7 rfl rfl ⟨[0, 1, 2, 3, 4, 5, 6], by decide, rfl⟩ (Ze (Zi rfl)) ?_
    refine ZF 8 rfl (.inr ⟨[0, 1, 2, 3, 4, 5, 6], by decide, rfl⟩) (Xg (rv := (.pointer (some ⟨q.bs, 0, none⟩))) (F := 182) rfl rfl (Zk6 _) Tryz.call182 ?_)
    refine (Z6 [_, _, _, _, _, _, _] q.hl rfl rfl (vf := []) (vc := []) rfl rfl Tryz.call182 rfl (fun w how hc => Zlb q V n hq _ w hc hn (keyN (atL x to)) (by omega) [] (by simp) (by simp) none 0 (XN _ _ _)) ?_)
    rintro v9 T9 hput
    refine Zb 9 rfl rfl ⟨[0, 1, 2, 3, 4, 5, 6], by decide, rfl⟩ (Ze (ZS rfl)) ?_
    refine ZR (.inr ⟨[0, 1, 2, 3, 4, 5, 6], by decide, rfl⟩) ?_
    refine Zf <| Zt <| Zy <| Zg <| Z0 (.inl rfl) Tryz.results57 rfl (ZJ (A := []) (B := [_, _, _, _, _, _, _]) (T := T9) [] 7 (by decide) (by decide) rfl rfl) ?_
    show Zby q V n x (atL x to) _ _
    unfold Zby
    rw [hkn]
    simp only
    rw [if_pos h36]
    exact hput
  refine gA <| Zk rfl <| Zx <| ZM <| Zf <| Zc <| Za <| gas rfl rfl <| gA <| Zt <| Z0 (.inl rfl) Tryz.results57 rfl (ZJ (A := []) (B := [_, _, _, _, _, _, _]) (T := q.hl) [] 7 (by decide) (by decide) rfl rfl) ?_
  show Zby q V n x (atL x to) _ _
  unfold Zby
  rw [hkn]
  simp only
  rw [if_neg (by rw [h36]; decide)]
  exact ⟨trivial, rfl⟩
namespace Ip
def Zld (s : Org) (q : SS) (n : Nat) (frm to : Int) (s0 : RS) (i : Nat) (T : List HL) : Prop :=
  ∃ (q2 : SS) (V2 : Ye) (s2 : RS), T = q2.hl ∧ q.Like q2 ∧ PSt s q2 V2 (n + i) s2.1 s2.2 ∧ XT q.cap to ((XD s.ds.length frm).take i) s0 = (s2, 0)
def CopyE (s : Org) (q : SS) (n : Nat) (frm to : Int) (s0 : RS) (e : Int) (T : List HL) : Prop :=
  (e = 5 ∧ ∃ (q2 : SS) (V2 : Ye) (s2 : RS), T = q2.hl ∧ q.Like q2 ∧ PSt s q2 V2 (n + 100) s2.1 s2.2 ∧ XT q.cap to (XD s.ds.length frm) s0 = (s2, 5)) ∨
  (e = 9 ∧ q.f.left ≠ -1 ∧ ∃ (i : Nat) (q2 : SS) (V1 V2 : Ye) (s1 s2 : RS), i < (XD s.ds.length frm).length ∧ T = q2.hl ∧ q.Like q2 ∧ q2.Torn (n + 100) V1 V2 ∧ PR s.ds.length s.ss.length s.cs.length V1 s1.1 s1.2 ∧ PR s.ds.length s.ss.length s.cs.length V2 s2.1 s2.2 ∧ XT q.cap to ((XD s.ds.length frm).take i) s0 = (s1, 0) ∧ XT q.cap to ((XD s.ds.length frm).take (i + 1)) s0 = (s2, 0))
theorem PSt.used {s : Org} {q : SS} {V : Ye} {n : Nat} {U : List Pis} {L : List (Pis × Rg)} (h : PSt s q V n U L) {x : Pis} (hx : pnE s.ds.length x = 0) (hk : (Xc V x).isSome = true) : x ∈ U ∧ V (keyN x) ≠ none := by
  have hv : V (keyN x) ≠ none := fun e => by
    unfold Xc at hk
    rw [e] at hk; cases hk
  exact ⟨Classical.byContradiction fun hn => hv ((h.pr.v1 x hx).2 hn), hv⟩
theorem Zoz {s : Org} {q q2 : SS} {n : Nat} {frm to : Int} {s0 s2 : RS} {i : Nat} {V2 : Ye} {x : Pis} (hget : (XD s.ds.length frm)[i]? = some x) (hi : i < 100) (h1 : 1 ≤ frm) (h8 : frm ≤ 8) (t1 : 1 ≤ to) (t8 : to ≤ 8)
    (hlk : q.Like q2) (hst : PSt s q2 V2 (n + i) s2.1 s2.2) (hcf : XT q.cap to ((XD s.ds.length frm).take i) s0 = (s2, 0)) {v : Value} {T : List HL} (hc : Zby q2 V2 (n + i) x (atL x to) v T) :
    (v = .int .i64 0 ∧ Zld s q n frm to s0 (i + 1) T) ∨ ∃ e : Int, e ≠ 0 ∧ v = .int .i64 e ∧ CopyE s q n frm to s0 e T := by
  have hx := ((JT h1 h8).1 (List.mem_of_getElem? hget)).2
  have hy := pn_at hx t1 t8
  have hil : i < (XD s.ds.length frm).length := (List.getElem?_eq_some_iff.1 hget).1
  have htk := Zmo (room := q.cap) (to := to) (s := s0) hget (by rw [hcf])
  rw [hcf] at htk
  unfold Zby at hc
  have hkx := hst.kept hx
  cases hk : Xc V2 x with
  | some r =>
    rw [hk] at hc
    simp only at hc
    have hr := hst.rg hx hk
    have hpl : Wx s2.2 x = some r := by rw [← hkx, hk]
    have hcs : X0 q.cap to s2 x = if Zac q.cap s2.1 (atL x to) then (s2, 5) else ((JS s2.1 (atL x to), JQ s2.2 (atL x to) r), 0) := by
      unfold X0
      rw [hpl]
    rw [show X0 q.cap to (s2, (0 : Int)).1 x = X0 q.cap to s2 x from rfl, hcs] at htk
    have hfu : Zhd V2 (keyN (atL x to)) (10 * (q2.f.b.length / 256 - 2)) q2.m.length ↔ Zac q.cap s2.1 (atL x to) := by rw [hst.full hy, hlk.cap]
    rcases hc with ⟨hf, rfl, rfl⟩ | ⟨hf, q3, rfl, hq3, hl3, rfl⟩ | ⟨hf, q3, rfl, hlf, hq3, hl3, rfl⟩
    · rw [if_pos (hfu.1 hf)] at htk
      exact .inr ⟨5, by decide, rfl, .inl ⟨rfl, q2, V2, s2, rfl, hlk, hst.mono (by omega), by rw [Zmp (i := i + 1) (by rw [htk]; show (5 : Int) ≠ 0; decide), htk]⟩⟩
    · rw [if_neg (fun h => hf (hfu.2 h))] at htk
      exact .inl ⟨rfl, q3, _, (JS s2.1 (atL x to), JQ s2.2 (atL x to) r), rfl, hlk.trans hl3, ⟨hq3, hst.pr.set hy hr (q2.num + 1)⟩, htk⟩
    · rw [if_neg (fun h => hf (hfu.2 h))] at htk
      exact .inr ⟨9, by decide, rfl, .inr ⟨rfl, fun h => hlf (hlk.no h), i, q3, V2, _, s2, (JS s2.1 (atL x to), JQ s2.2 (atL x to) r), hil, rfl, hlk.trans hl3, hq3.mono (by omega), hst.pr, hst.pr.set hy hr (q2.num + 1), hcf, htk⟩⟩
  | none =>
    rw [hk] at hc
    simp only at hc
    have hpl : Wx s2.2 x = none := by rw [← hkx, hk]
    have hcs : X0 q.cap to s2 x = ((s2.1, forgetR s2.2 (atL x to)), 0) := by
      unfold X0
      rw [hpl]
    rw [show X0 q.cap to (s2, (0 : Int)).1 x = X0 q.cap to s2 x from rfl, hcs] at htk
    by_cases hy2 : (Xc V2 (atL x to)).isSome = true
    · rw [if_pos hy2] at hc
      obtain ⟨hU, hv⟩ := hst.used hy hy2
      rcases hc with ⟨hf, _⟩ | ⟨hf, q3, rfl, hq3, hl3, rfl⟩ | ⟨hf, q3, rfl, hlf, hq3, hl3, rfl⟩
      · exact absurd hf.1 hv
      · exact .inl ⟨rfl, q3, _, (s2.1, forgetR s2.2 (atL x to)), rfl, hlk.trans hl3, ⟨hq3, hst.pr.clear hy hU (q2.num + 1)⟩, htk⟩
      · exact .inr ⟨9, by decide, rfl, .inr ⟨rfl, fun h => hlf (hlk.no h), i, q3, V2, _, s2, (s2.1, forgetR s2.2 (atL x to)), hil, rfl, hlk.trans hl3, hq3.mono (by omega), hst.pr, hst.pr.clear hy hU (q2.num + 1), hcf, htk⟩⟩
    · rw [if_neg hy2] at hc
      obtain ⟨rfl, rfl⟩ := hc
      have hpy : Wx s2.2 (atL x to) = none := by
        rw [← hst.kept hy]
        simpa using hy2
      rw [Zop hst.pr.srt hpy] at htk
      exact .inl ⟨rfl, q2, V2, s2, rfl, hlk, hst.mono (by omega), htk⟩
theorem copy_hs {s : Org} {q : SS} {n : Nat} {frm to : Int} {s0 : RS} {bp b1 b2 : Nat} {w : World} {S : List Nat} (hn : n + 100 < 1000000) (h1 : 1 ≤ frm) (h8 : frm ≤ 8) (t1 : 1 ≤ to) (t8 : to ≤ 8) (hP : PsIn s bp q.bs w S)
    (hc1 : w.cell? ⟨b1, 0, none⟩ = some (.pointer (some ⟨bp, 0, none⟩))) (hs1 : b1 ∉ S) (hc2 : w.cell? ⟨b2, 0, none⟩ = some (.int .i64 to)) (hs2 : b2 ∉ S) (i : Nat) (x : Pis) (L : List HL) (w2 : World) (hget : (XD s.ds.length frm)[i]? = some x) (hI : Zld s q n frm to s0 i L) (ho : Own w S w2 L) :
    Sp Tryz.prog 57 (Pis.val x :: [.pointer (some ⟨b1, 0, none⟩), .pointer (some ⟨b2, 0, none⟩)]) w2 (L.filterMap HL.block) (fun v L' => (v = .int .i64 0 ∧ Zld s q n frm to s0 (i + 1) L') ∨ ∃ e : Int, e ≠ 0 ∧ v = .int .i64 e ∧ CopyE s q n frm to s0 e L') := by
  obtain ⟨q2, V2, s2, rfl, hlk, hst, hcf⟩ := hI
  have hil : i < (XD s.ds.length frm).length := (List.getElem?_eq_some_iff.1 hget).1
  rw [Vg] at hil
  have hnd := hP.nd
  have hx := ((JT h1 h8).1 (List.mem_of_getElem? hget)).2
  have hP2 := hP.out (A := []) ho
  rw [← hlk.bs] at hP2
  obtain ⟨e1, f1⟩ := Zbx (A := []) ho hc1 hs1
  obtain ⟨e2, f2⟩ := Zbx (A := []) ho hc2 hs2
  exact (copy1_ok q2 V2 (n + i) hst.ok _ w2 ho.inBlocks s bp hP2 (by omega) x to hx (pn_at hx t1 t8) b1 b2 e1 f1 e2 f2).mono fun v L' hc => Zoz hget (by omega) h1 h8 t1 t8 hlk hst hcf hc
def CopyR (s : Org) (q : SS) (n : Nat) (frm to : Int) (s0 : RS) : Value → List HL → Prop := fun v T =>
  ((frm < 1 ∨ 8 < frm ∨ to < 1 ∨ 8 < to) ∧ v = .int .i64 7 ∧ T = q.hl) ∨
  ((1 ≤ frm ∧ frm ≤ 8 ∧ 1 ≤ to ∧ to ≤ 8) ∧ ((q.err ≠ 0 ∧ v = .int .i64 q.err ∧ T = q.hl) ∨ (q.err = 0 ∧ frm = to ∧ v = .int .i64 0 ∧ T = q.hl) ∨
    (q.err = 0 ∧ frm ≠ to ∧ ((v = .int .i64 0 ∧ Zld s q n frm to s0 (XD s.ds.length frm).length T) ∨ ∃ e : Int, e ≠ 0 ∧ v = .int .i64 e ∧ CopyE s q n frm to s0 e T))))
end Ip
open Ip
theorem Zle (q : SS) (V : Ye) (n : Nat) (s : Org) (s0 : RS) (hq : PSt s q V n s0.1 s0.2 ∨ q.Stop) (S : List Nat) (w0 : World) (hown : Own w0 S w0 q.hl) (hn : n + 100 < 1000000) (bp : Nat) (hP : PsIn s bp q.bs w0 S) (frm to : Int) : Sp Tryz.prog 21 [.pointer (some ⟨bp, 0, none⟩), .int .i64 frm, .int .i64 to] w0 S (CopyR s q n frm to s0) := by
  refine ZB Tryz.func21 rfl Tryz.ntmps21 rfl hown ?_
  simp only [ZU]
  refine Zc <| Za <| Zn (Z7 rfl rfl rfl (fun b3 => ?_))
  refine Zn (Z7 rfl rfl rfl (fun b5 => ?_))
  refine gas rfl rfl <| gA <| Zc <| ZI <| Zc <| Za <| gr rfl (Zh Tryz.underlying36 rfl rfl (by exact Zq 1 rfl rfl)) ?_
  refine Zn (ZD rfl (vf := []) (vc := []) rfl rfl Tryz.call43 (fun w1 ho => Jp bp true w1 (by have h9 := (hP.at ho).p 0 _ rfl; exact h9)) ?_)
  rintro _ _ ⟨rfl, rfl⟩
  refine gas rfl rfl <| gA <| Zk rfl <| Zc <| Za <| gm rfl rfl <| gr rfl (Z5 rfl rfl) (Zv (fun h13 => ?_) (fun h13 => ?_))
  · refine gm rfl rfl <| Zu rfl rfl rfl <| Zu rfl rfl rfl <| gr rfl (ZE rfl rfl) <| gm rfl rfl <| Zu rfl rfl rfl <| Zu rfl rfl rfl <| gr rfl (ZE rfl rfl) <| gm rfl rfl <| Zu rfl rfl rfl <| Zu rfl rfl rfl <| gr rfl (ZE rfl rfl) <| gas rfl rfl <| gA <| Zj rfl <| Zc <| Za <| gas rfl rfl <| gA <| Zt <| Zy <| Zg <| Z0 (.inl rfl) Tryz.results21 rfl (ZJ (A := []) (B := [_, _]) (T := q.hl) [] 2 (by decide) (by decide) rfl rfl) ?_
    exact .inl ⟨by omega, rfl, rfl⟩
  refine gm rfl rfl <| Zl rfl rfl <| Zs rfl (Zi rfl) <| Zl rfl rfl (Zs rfl (YG rfl rfl) (Zv (fun h16 => ?_) (fun h16 => ?_)))
  · refine gr rfl (Zo rfl rfl) <| gm rfl rfl <| Zu rfl rfl rfl <| Zu rfl rfl rfl <| gr rfl (ZE rfl rfl) <| gm rfl rfl <| Zu rfl rfl rfl <| Zu rfl rfl rfl <| gr rfl (ZE rfl rfl) <| gas rfl rfl <| gA <| Zj rfl <| Zc <| Za <| gas rfl rfl <| gA <| Zt <| Zy <| Zg <| Z0 (.inl rfl) Tryz.results21 rfl (ZJ (A := []) (B := [_, _]) (T := q.hl) [] 2 (by decide) (by decide) rfl rfl) ?_
    exact .inl ⟨by omega, rfl, rfl⟩
  refine gr rfl (Zo rfl rfl) <| gm rfl rfl <| Zl rfl rfl (Zs rfl (Zh Tryz.underlying3 rfl rfl (by exact Zq 0 rfl rfl)) ?_)
  refine Zl rfl rfl (Zs rfl (Z5 rfl rfl) (Zv (fun h20 => ?_) (fun h20 => ?_)))
  · refine gr rfl (Zo rfl rfl) <| gm rfl rfl <| Zu rfl rfl rfl <| Zu rfl rfl rfl <| gr rfl (ZE rfl rfl) <| gas rfl rfl <| gA <| Zj rfl <| Zc <| Za <| gas rfl rfl <| gA <| Zt <| Zy <| Zg <| Z0 (.inl rfl) Tryz.results21 rfl (ZJ (A := []) (B := [_, _]) (T := q.hl) [] 2 (by decide) (by decide) rfl rfl) ?_
    exact .inl ⟨by omega, rfl, rfl⟩
  refine gr rfl (Zo rfl rfl) <| gm rfl rfl <| Zl rfl rfl (Zs rfl (Zh Tryz.underlying3 rfl rfl (by exact Zq 0 rfl rfl)) ?_)
  refine Zl rfl rfl (Zs rfl (YG rfl rfl) (Zv (fun h24 => ?_) (fun h24 => ?_)))
  · refine gr rfl (Zo rfl rfl) <| gas rfl rfl <| gA <| Zj rfl <| Zc <| Za <| gas rfl rfl <| gA <| Zt <| Zy <| Zg <| Z0 (.inl rfl) Tryz.results21 rfl (ZJ (A := []) (B := [_, _]) (T := q.hl) [] 2 (by decide) (by decide) rfl rfl) ?_
    exact .inl ⟨by omega, rfl, rfl⟩
  refine gr rfl (Zo rfl rfl) <| gas rfl rfl <| gA <| Zk rfl <| Zx <| ZM <| Zf <| Zc <| Zc <| Za <| gr rfl (Zh Tryz.underlying36 rfl rfl (by exact Zq 1 rfl rfl)) ?_
  refine Zn (Z6 [_, _] q.hl rfl rfl (vf := []) (vc := []) rfl rfl Tryz.call46 rfl (fun w how hc => Zcn q (hq.imp (fun h => ⟨V, n, h.ok⟩) id) _ w hc s bp (hP.out (A := [_, _]) how)) ?_)
  rintro _ _ ⟨rfl, rfl⟩
  refine gas rfl rfl <| gA <| Zc <| Za <| gm rfl rfl <| gr rfl (ZP rfl rfl) (Zv (fun h29 => ?_) (fun h29 => ?_))
  · refine gm rfl rfl <| Zu rfl rfl rfl <| Zu rfl rfl rfl <| Zu rfl rfl rfl <| gr rfl (ZE rfl rfl) <| gA <| Zj rfl <| Zc <| Za <| gm rfl rfl <| gas rfl rfl <| gA <| Zt <| Zg <| Z0 (.inl rfl) Tryz.results21 rfl (ZJ (A := []) (B := [_, _]) (T := q.hl) [] 2 (by decide) (by decide) rfl rfl) ?_
    exact .inr ⟨⟨by omega, by omega, by omega, by omega⟩, .inl ⟨h29, rfl, rfl⟩⟩
  refine gm rfl rfl <| Zl rfl rfl <| Zs rfl (Zi rfl) <| Zl rfl rfl (Zs rfl (Zh Tryz.underlying3 rfl rfl (by exact Zq 0 rfl rfl)) ?_)
  refine Zl rfl rfl (Zs rfl (Yr rfl rfl) (Zv (fun h33 => ?_) (fun h33 => ?_)))
  · refine gr rfl (Zo rfl rfl) <| gA <| Zj rfl <| Zc <| Za <| gm rfl rfl <| gas rfl rfl <| gA <| Zt <| Zg <| Z0 (.inl rfl) Tryz.results21 rfl (ZJ (A := []) (B := [_, _]) (T := q.hl) [] 2 (by decide) (by decide) rfl rfl) ?_
    have hq0 : q.err = 0 := by omega
    rw [hq0]
    exact .inr ⟨⟨by omega, by omega, by omega, by omega⟩, .inr (.inl ⟨hq0, h33, rfl, rfl⟩)⟩
  refine gr rfl (Zo rfl rfl) <| gA <| Zk rfl <| Zx <| Zf <| Zc ?_
  have hq0 : q.err = 0 := by omega
  have hst := hq.resolve_right (fun h => h.no hq0)
  refine Za <| gr rfl (Zh Tryz.underlying36 rfl rfl (by exact Zq 1 rfl rfl)) ?_
  refine gm rfl rfl <| gr rfl (XM (fs := []) (cs := [.tmp 3, .tmp 5]) rfl rfl) <| Zn (Z6 [_, _] q.hl rfl rfl (vf := []) (vc := []) rfl rfl Tryz.call56 rfl (fun w how hc => Zns s bp q.bs _ w (hP.out (A := [_, _]) how) frm 57 [.pointer (some ⟨b3, 0, none⟩), .pointer (some ⟨b5, 0, none⟩)] Tryz.call57 (Zld s q n frm to s0) (CopyE s q n frm to s0) (copy_hs hn (by omega) (by omega) (by omega) (by omega) (hP.out (A := [_, _]) how) (how.blkCell 1 rfl rfl) (how.blkOutT 1 rfl) (how.blkCell 0 rfl rfl) (how.blkOutT 0 rfl)) q.hl ⟨q, V, s0, rfl, SS.Like.refl q, hst, rfl⟩ hc) ?_)
  rintro v9 T9 hres
  refine gas rfl rfl <| gA <| Zt <| Z0 (.inl rfl) Tryz.results21 rfl (ZJ (A := []) (B := [_, _]) (T := T9) [] 2 (by decide) (by decide) rfl rfl) ?_
  exact .inr ⟨⟨by omega, by omega, by omega, by omega⟩, .inr (.inr ⟨hq0, h33, hres⟩)⟩
namespace Ip
abbrev Pis.cells (x : Pis) : List Value := [.int .i64 x.lv, .int .i64 x.dv, .int .i64 x.nm]
theorem pis_snoc (xs : List Pis) (x : Pis) : xs.flatMap Pis.cells ++ [.int .i64 x.lv, .int .i64 x.dv, .int .i64 x.nm] = (xs ++ [x]).flatMap Pis.cells := by simp
def X1 (V : Ye) (qf : Pis → Rg → Bool) (x : Pis) : Bool := match Xc V x with | some r => qf x r | none => false
def allN (nd l : Nat) : List Pis := (List.range l).flatMap fun l : Nat => XD nd ((l : Int) + 1)
theorem Zhk (nd l : Nat) : allN nd (l + 1) = allN nd l ++ XD nd ((l : Int) + 1) := by
  unfold allN
  rw [List.range_succ, List.flatMap_append]; simp
theorem Zlf (nd : Nat) (hn : nd ≤ 6) : ∀ l, (allN nd l).length ≤ 68 * l
  | 0 => by simp [allN]
  | l + 1 => by
    have := Zlf nd hn l
    rw [Zhk, List.length_append, Vg]; omega
theorem take_fil {l : List Pis} {i : Nat} {x : Pis} (hx : l[i]? = some x) (f : Pis → Bool) : (l.take (i + 1)).filter f = (l.take i).filter f ++ (if f x = true then [x] else []) := by
  rw [List.take_add_one, hx, List.filter_append]
  cases h : f x <;> simp [h]
end Ip
open Ip
theorem Zmq (q : SS) (V : Ye) (n : Nat) (hq : q.Ok V n) (s : Org) (bp : Nat) (S : List Nat) (w0 : World) (hP : PsIn s bp q.bs w0 S) (qf : Pis → Rg → Bool) (xs : List Pis) (hxl : xs.length ≤ 100000) (b5 : Nat) (r0 : Option Nat) (c0 : Nat) (hown : Own w0 S w0 (.blk b5 [.slice (rowA r0) xs.length c0] 56 :: .row 23 3 r0 xs.length c0 (xs.flatMap Pis.cells) :: q.hl)) (x : Pis) (hx : pnE s.ds.length x = 0) (hrg : ∀ r, Xc V x = some r → RgOk s.ss.length s.cs.length r) (b1 b2 : Nat) (hc1 : w0.cell? ⟨b1, 0, none⟩ = some (.pointer (some ⟨bp, 0, none⟩))) (hs1 : b1 ∉ S) (gf2 : FuncId) (caps2 : List Value) (hcall2 : ∀ args w, (callFunc gf2 args).run Tryz.prog w = .ok (.enter gf2 args) w) (hc2 : w0.cell? ⟨b2, 0, none⟩ = some (.func (.func gf2) ([] : List Value).toArray (caps2 : List Value).toArray)) (hs2 : b2 ∉ S) (hqf : ∀ (k : Rg) (r : Option Nat) (c : Nat) (r2 : Option Nat) (c2 : Nat) (w : World) (l : List HL), Own w0 S w l → RgOk s.ss.length s.cs.length k → OldSl w [] (rowA r) k.1.length 1 (k.1.map natV) → OldSl w [] (rowA r2) k.2.length 1 (k.2.map natV) → Sp Tryz.prog gf2 (Pis.val x :: .agg #[.slice (rowA r) k.1.length c, .slice (rowA r2) k.2.length c2] :: caps2) w [] (RV (.bool (qf x k)))) : Sp Tryz.prog 93 [Pis.val x, .pointer (some ⟨b1, 0, none⟩), .pointer (some ⟨b2, 0, none⟩), .pointer (some ⟨b5, 0, none⟩)] w0 S (fun v L => v = .int .i64 0 ∧ ∃ (r : Option Nat) (c : Nat), L = .blk b5 [.slice (rowA r) (xs ++ if X1 V qf x = true then [x] else []).length c] 56 :: .row 23 3 r (xs ++ if X1 V qf x = true then [x] else []).length c ((xs ++ if X1 V qf x = true then [x] else []).flatMap Pis.cells) :: q.hl) := by
  refine ZB Tryz.func93 rfl Tryz.ntmps93 rfl hown ?_
  simp only [ZU]
  refine Zc <| Za <| Zn (Z7 rfl rfl rfl (fun b4 => ?_))
  refine gas rfl rfl <| gA <| Zc <| Zc <| Za <| gr rfl (Zh Tryz.underlying36 rfl rfl (Vy hc1 hs1)) <| gr rfl (Zr Tryz.underlying23 rfl YB rfl (by exact ZH 0 (off := 0) (k := 3) rfl rfl) rfl) ?_
  refine Zn (Z6 [_, _, _] q.hl rfl rfl (vf := []) (vc := []) rfl rfl Tryz.call47 rfl (fun w how hc => JV q V n hq _ w hc s bp (hP.out (A := [_, _, _]) how) x hx) ?_)
  rintro _ _ ⟨kr, kc, lr, lc, rfl, rfl⟩
  refine gm rfl rfl <| gr rfl (Zp rfl rfl) <| gr rfl (Zp rfl rfl) <| Z8 (fun h13 => ?_) (fun h13 => ?_)
  · obtain ⟨r, hkr⟩ := Option.isSome_iff_exists.1 h13
    have hkD : kD V x = r := by unfold kD; rw [hkr]; rfl
    rw [hkD]
    have hr := hrg r hkr
    have hkb : X1 V qf x = qf x r := by unfold X1; rw [hkr]
    refine Zn (ZO ZZ rfl rfl (fun b6 => ?_))
    refine Zn (ZA 0 ZZ rfl rfl rfl rfl rfl rfl (by rfl) ?_)
    refine gas rfl rfl <| gA <| Zc <| Za <| gm rfl rfl <| gm rfl rfl <| Zl rfl rfl <| Zs rfl (Zh Tryz.underlying124 rfl rfl (Vy hc2 hs2)) <| Zl rfl rfl (Zs rfl (Zr Tryz.underlying23 rfl YB rfl (by exact ZH 1 (off := 0) (k := 3) rfl rfl) rfl) ?_)
    refine Zl rfl rfl (Zs rfl (Zr Tryz.underlying26 rfl ZZ rfl (by exact ZH 0 (off := 0) (k := 2) rfl rfl) rfl) ?_)
    refine Zl rfl rfl (ZD rfl (vf := []) (vc := caps2) rfl rfl hcall2 (fun w1 ho => hqf r kr kc lr lc w1 _ ho hr (ho.rowSl 4 rfl) (ho.rowSl 5 rfl)) ?_)
    rintro _ _ ⟨rfl, rfl⟩
    refine Z8 (fun h19 => ?_) (fun h19 => ?_)
    · refine gr rfl (ZE rfl rfl) <| gA <| Zj rfl <| Za <| gr rfl (Zh Tryz.underlying56 rfl rfl (by exact Zq 2 rfl rfl)) ?_
      refine gr rfl (Zr Tryz.underlying23 rfl YB rfl (by exact ZH 1 (off := 0) (k := 3) rfl rfl) rfl) ?_
      refine Zn (ZX (sz := 3) rfl rfl (fun _ => Zn4 _ _ _) rfl rfl (fun b23 => ?_))
      refine Zn (YW 4 0 Tryz.underlying56 YB rfl (by decide) rfl rfl rfl rfl rfl (by simp [Value.oneCell']) (by omega) (by omega) (fun _ => (by rfl)) (fun r24 c24 => ?_))
      refine Zn (Ya 3 ty_56 rfl rfl rfl rfl rfl (by rfl) (by rfl) ?_)
      refine gA <| Zc ?_
      rw [pis_snoc, show xs.length + 1 = (xs ++ [x]).length by simp]
      refine Za <| gas rfl rfl <| gA <| Zt <| Z0 (.inl rfl) Tryz.results93 rfl (ZJ (A := [_, _]) (B := [_, _, _, _, _, _, _]) (T := q.hl) [3, 4] 7 (by decide) (by decide) rfl rfl) ?_
      have e9 : X1 V qf x = true := by rw [hkb]; exact h19
      rw [e9]
      exact ⟨rfl, r24, c24, rfl⟩
    refine gr rfl (ZE rfl rfl) <| gA <| Zk rfl <| Zx <| Zf <| Zc <| Za <| gas rfl rfl <| gA <| Zt <| Z0 (.inl rfl) Tryz.results93 rfl (ZJ (A := [_, _]) (B := [_, _, _, _, _, _]) (T := q.hl) [2, 3] 6 (by decide) (by decide) rfl rfl) ?_
    have e9 : X1 V qf x = false := by rw [hkb, h19]
    rw [e9]
    rw [show (xs ++ if (false = true) then [x] else []) = xs by simp]
    exact ⟨rfl, r0, c0, rfl⟩
  have hkn : Xc V x = none := by simpa using h13
  have hkb : X1 V qf x = false := by unfold X1; rw [hkn]
  refine Zn (ZO ZZ rfl rfl (fun b6 => ?_))
  refine Zn (ZA 0 ZZ rfl rfl rfl rfl rfl rfl (by rfl) ?_)
  refine gas rfl rfl <| gA <| Zc <| Za <| gm rfl rfl <| gm rfl rfl <| Zu rfl rfl rfl <| Zu rfl rfl rfl <| Zu rfl rfl rfl <| Zu rfl rfl rfl <| gr rfl (Zo rfl rfl) <| gA <| Zk rfl <| Zx <| Zf <| Zc <| Za <| gas rfl rfl <| gA <| Zt <| Z0 (.inl rfl) Tryz.results93 rfl (ZJ (A := [_, _]) (B := [_, _, _, _, _, _]) (T := q.hl) [2, 3] 6 (by decide) (by decide) rfl rfl) ?_
  have e9 : X1 V qf x = false := by rw [hkb]
  rw [e9]
  rw [show (xs ++ if (false = true) then [x] else []) = xs by simp]
  exact ⟨rfl, r0, c0, rfl⟩
namespace Ip
def ListI (q : SS) (V : Ye) (qf : Pis → Rg → Bool) (b5 : Nat) (pre lev : List Pis) (i : Nat) (T : List HL) : Prop := ∃ (xs : List Pis) (r : Option Nat) (c : Nat), xs = pre ++ ((lev.take i).filter (X1 V qf)) ∧ T = .blk b5 [.slice (rowA r) xs.length c] 56 :: .row 23 3 r xs.length c (xs.flatMap Pis.cells) :: q.hl
theorem list_hs {s : Org} {q : SS} {V : Ye} {n : Nat} {bp b1 b2 b5 : Nat} {w0 w : World} {S0 S : List Nat} {l0 : List HL} {qf : Pis → Rg → Bool} {pre : List Pis} {lv : Int} (hq : q.Ok V n) (hpre : pre.length ≤ 1000) (h1 : 1 ≤ lv) (h8 : lv ≤ 8) (hrg : ∀ x r, pnE s.ds.length x = 0 → Xc V x = some r → RgOk s.ss.length s.cs.length r)
    (hP : PsIn s bp q.bs w S) (hc1 : w.cell? ⟨b1, 0, none⟩ = some (.pointer (some ⟨bp, 0, none⟩))) (hs1 : b1 ∉ S) {gf2 : FuncId} {caps2 : List Value} (hcall2 : ∀ args w, (callFunc gf2 args).run Tryz.prog w = .ok (.enter gf2 args) w) (hc2 : w.cell? ⟨b2, 0, none⟩ = some (.func (.func gf2) ([] : List Value).toArray (caps2 : List Value).toArray)) (hs2 : b2 ∉ S)
    (ho0 : Own w0 S0 w l0) (hSS : ∀ b ∈ S, b ∈ S0 ∨ w0.heap.size ≤ b) (hqf : ∀ (x : Pis) (k : Rg) (r : Option Nat) (c : Nat) (r2 : Option Nat) (c2 : Nat) (w : World) (l : List HL), Own w0 S0 w l → pnE s.ds.length x = 0 → RgOk s.ss.length s.cs.length k → OldSl w [] (rowA r) k.1.length 1 (k.1.map natV) → OldSl w [] (rowA r2) k.2.length 1 (k.2.map natV) → Sp Tryz.prog gf2 (Pis.val x :: .agg #[.slice (rowA r) k.1.length c, .slice (rowA r2) k.2.length c2] :: caps2) w [] (RV (.bool (qf x k)))) (i : Nat) (x : Pis) (L : List HL) (w2 : World) (hget : (XD s.ds.length lv)[i]? = some x) (hI : ListI q V qf b5 pre (XD s.ds.length lv) i L) (ho : Own w S w2 L) :
    Sp Tryz.prog 93 (Pis.val x :: [.pointer (some ⟨b1, 0, none⟩), .pointer (some ⟨b2, 0, none⟩), .pointer (some ⟨b5, 0, none⟩)]) w2 (L.filterMap HL.block) (fun v L' => (v = .int .i64 0 ∧ ListI q V qf b5 pre (XD s.ds.length lv) (i + 1) L') ∨ ∃ e : Int, e ≠ 0 ∧ v = .int .i64 e ∧ False) := by
  obtain ⟨xs, r7, c7, hxs, rfl⟩ := hI
  have hnd := hP.nd
  have hx := ((JT h1 h8).1 (List.mem_of_getElem? hget)).2
  have hxl : xs.length ≤ 100000 := by
    have h3 := List.length_filter_le (X1 V qf) ((XD s.ds.length lv).take i)
    have h4 : ((XD s.ds.length lv).take i).length ≤ 68 := by rw [List.length_take, Vg]; omega
    rw [hxs, List.length_append]; omega
  have hP2 := hP.out (A := []) ho
  obtain ⟨e1, f1⟩ := Zbx (A := []) ho hc1 hs1
  obtain ⟨e2, f2⟩ := Zbx (A := []) ho hc2 hs2
  have hqf2 : ∀ (k : Rg) (r : Option Nat) (c : Nat) (r2 : Option Nat) (c2 : Nat) (w9 : World) (l9 : List HL), Own w2 ((.blk b5 [.slice (rowA r7) xs.length c7] 56 :: .row 23 3 r7 xs.length c7 (xs.flatMap Pis.cells) :: q.hl).filterMap HL.block) w9 l9 → RgOk s.ss.length s.cs.length k → OldSl w9 [] (rowA r) k.1.length 1 (k.1.map natV) → OldSl w9 [] (rowA r2) k.2.length 1 (k.2.map natV) → Sp Tryz.prog gf2 (Pis.val x :: .agg #[.slice (rowA r) k.1.length c, .slice (rowA r2) k.2.length c2] :: caps2) w9 [] (RV (.bool (qf x k))) := by
    intro k r3 c3 r2 c2 w9 l9 ho9 hk hs3 hs4
    have hsub : ∀ b ∈ (.blk b5 [.slice (rowA r7) xs.length c7] 56 :: .row 23 3 r7 xs.length c7 (xs.flatMap Pis.cells) :: q.hl).filterMap HL.block, b ∈ S ∨ w.heap.size ≤ b := fun b hb => by
      obtain ⟨y, hy, hyb⟩ := List.mem_filterMap.1 hb
      exact ho.place y hy b hyb
    have k1 : Own w S w9 l9 := by
      have := ho.called ho9 (ho.sub (Zeb [] _)) hsub (by simp)
      rwa [List.append_nil] at this
    have k2 : Own w0 S0 w9 l9 := by
      have := ho0.called k1 (ho0.sub (Zeb [] _)) hSS (by simp)
      rwa [List.append_nil] at this
    exact hqf x k r3 c3 r2 c2 w9 l9 k2 hx hk hs3 hs4
  refine (Zmq q V n hq s bp _ w2 hP2 qf xs hxl b5 r7 c7 ho.inBlocks x hx (fun r h => hrg x r hx h) b1 b2 e1 f1 gf2 caps2 hcall2 e2 f2 hqf2).mono ?_
  rintro v L' ⟨rfl, r9, c9, rfl⟩
  refine .inl ⟨rfl, _, r9, c9, ?_, rfl⟩
  rw [take_fil hget, hxs, List.append_assoc]
end Ip
open Ip
namespace Ip
theorem VZ (a b c d : HL) (T : List HL) : Sub ([c, d] ++ (a :: b :: T)) ([a, b, c, d] ++ T) := ZJ (A := [c, d, a, b]) (B := [a, b, c, d]) (T := T) [2, 3, 0, 1] 4 (by decide) (by decide) rfl rfl
end Ip
open Ip
theorem Zfs (q : SS) (V : Ye) (n : Nat) (hq : q.Ok V n) (s : Org) (bp : Nat) (S : List Nat) (w0 : World) (hown : Own w0 S w0 q.hl) (hP : PsIn s bp q.bs w0 S) (qf : Pis → Rg → Bool) (hrg : ∀ x r, pnE s.ds.length x = 0 → Xc V x = some r → RgOk s.ss.length s.cs.length r) (gf2 : FuncId) (caps2 : List Value) (hcall2 : ∀ args w, (callFunc gf2 args).run Tryz.prog w = .ok (.enter gf2 args) w) (hqf : ∀ (x : Pis) (k : Rg) (r : Option Nat) (c : Nat) (r2 : Option Nat) (c2 : Nat) (w : World) (l : List HL), Own w0 S w l → pnE s.ds.length x = 0 → RgOk s.ss.length s.cs.length k → OldSl w [] (rowA r) k.1.length 1 (k.1.map natV) → OldSl w [] (rowA r2) k.2.length 1 (k.2.map natV) → Sp Tryz.prog gf2 (Pis.val x :: .agg #[.slice (rowA r) k.1.length c, .slice (rowA r2) k.2.length c2] :: caps2) w [] (RV (.bool (qf x k)))) : Sp Tryz.prog 49 [.pointer (some ⟨bp, 0, none⟩), .func (.func gf2) ([] : List Value).toArray (caps2 : List Value).toArray] w0 S (fun v L => ∃ (r : Option Nat) (c : Nat), v = .slice (rowA r) ((allA s.ds.length).filter (X1 V qf)).length c ∧ L = .row 23 3 r ((allA s.ds.length).filter (X1 V qf)).length c (((allA s.ds.length).filter (X1 V qf)).flatMap Pis.cells) :: q.hl) := by
  have hnd := hP.nd
  refine ZB Tryz.func49 rfl Tryz.ntmps49 rfl hown ?_
  simp only [ZU]
  refine Zc <| Za <| Zn (Z7 rfl rfl rfl (fun b2 => ?_))
  refine Zn (Z7 rfl rfl rfl (fun b3 => ?_))
  refine gas rfl rfl <| gA <| Zc <| Za <| Zn (ZO ty_56 rfl rfl (fun b5 => ?_))
  refine gA <| Zc <| Zc <| Za <| gm rfl rfl <| gA <| ZI <| Y6 23 3 <| Z3 (ι := Nat × Option Nat × Nat) [(2, _), (3, _), (5, _)] (_ :: _ :: q.hl) (fun q9 => q9.1 ≤ 8) (fun q9 Fr0 => ((7, natV q9.1) :: Fr0)) (fun q9 Fr0 => (.blk b5 [.slice (rowA q9.2.1) ((allN s.ds.length q9.1).filter (X1 V qf)).length q9.2.2] 56 :: .row 23 3 q9.2.1 ((allN s.ds.length q9.1).filter (X1 V qf)).length q9.2.2 (((allN s.ds.length q9.1).filter (X1 V qf)).flatMap Pis.cells) :: Fr0)) (fun q9 => 8 - q9.1) (0, none, 0) (by simp) ⟨rfl, rfl, rfl, rfl, trivial⟩ (ZJ (A := [_, _, _, _]) (B := [_, _, _, _]) (T := q.hl) [1, 0, 2, 3] 4 (by decide) (by decide) rfl rfl) ?_
  rintro ⟨l, r, c⟩ hl
  simp only at hl ⊢
  have hll := Zlf s.ds.length hnd l
  have hlf := List.length_filter_le (X1 V qf) (allN s.ds.length l)
  refine Zc <| Za <| gr rfl (Z5 rfl rfl) (Zv (fun h8 => ?_) (fun h8 => ?_))
  · refine gA <| Zc <| Zj rfl <| Zx <| Zf <| Zc <| ZI <| Zc <| Za <| gm rfl rfl <| gas rfl rfl <| gA <| Za <| gr rfl (Zh Tryz.underlying36 rfl rfl (by exact Zq 3 rfl rfl)) ?_
    refine gm rfl rfl <| gr rfl (WL rfl rfl (by omega) (by omega)) ?_
    refine gr rfl (XM (fs := []) (cs := [.tmp 2, .tmp 3, .tmp 5]) rfl rfl) <| Zn (Zca [_, _, _, _] q.hl [0, 1] [2, 3] 4 rfl rfl rfl (vf := []) (vc := []) rfl rfl Tryz.call56 (by decide) (by decide) rfl (fun w how hc => Zns s bp q.bs _ w (hP.out (A := [_, _]) (how.sub (VZ _ _ _ _ _))) _ 93 [.pointer (some ⟨b2, 0, none⟩), .pointer (some ⟨b3, 0, none⟩), .pointer (some ⟨b5, 0, none⟩)] Tryz.call93 (ListI q V qf b5 ((allN s.ds.length l).filter (X1 V qf)) (XD s.ds.length ((l : Int) + 1))) (fun _ _ => False) (list_hs hq (by omega) (by omega) (by omega) hrg (hP.out (A := [_, _]) (how.sub (VZ _ _ _ _ _))) (how.blkCell 3 rfl rfl) (Own.blkOutT (A := [_, _]) (how.sub (VZ _ _ _ _ _)) 1 rfl) hcall2 (how.blkCell 2 rfl rfl) (Own.blkOutT (A := [_, _]) (how.sub (VZ _ _ _ _ _)) 0 rfl) how (fun b hb => by obtain ⟨y, hy, hyb⟩ := List.mem_filterMap.1 hb; exact (how.sub (VZ _ _ _ _ _)).place y (List.mem_append_right [_, _] hy) b hyb) hqf) _ ⟨_, r, c, by simp, rfl⟩ hc) ?_)
    rintro _ _ (⟨rfl, ys9, r9, c9, hys, rfl⟩ | ⟨e9, _, _, hF⟩)
    · refine V9 [_, _] q.hl [_, _] ?_
      rw [List.take_length, ← List.filter_append, ← Zhk] at hys
      subst hys
      refine ZW <| ZM <| Zf <| Za <| gr rfl (by exact ZN (b := 1) rfl rfl (by omega)) ?_
      refine gm rfl rfl <| ZW <| Zf ?_
      exact Z1 ((l + 1, r9, c9)) ⟨by simp only; omega, by simp only; omega⟩ ⟨rfl, rfl, rfl, rfl, trivial⟩ (Zz 0 rfl)
    exact hF.elim
  refine gA <| Zc <| Zk rfl <| Z4 <| Zw <| Zw <| ZK <| Zf <| Zc <| Za <| gr rfl (Zh Tryz.underlying56 rfl rfl (by exact Zq 0 rfl rfl)) ?_
  refine gas rfl rfl <| gA <| Zt <| Z0 (.inl rfl) Tryz.results49 rfl (ZJ (A := [_]) (B := [_, _, _, _]) (T := q.hl) [1] 4 (by decide) (by decide) rfl rfl) ?_
  have hl9 : l = 8 := by omega
  subst hl9
  exact ⟨r, c, rfl, rfl⟩
namespace Ip
theorem PSt.listed {s : Org} {q : SS} {V : Ye} {n : Nat} {U : List Pis} {L : List (Pis × Rg)} (h : PSt s q V n U L) (qf : Pis → Rg → Bool) : (allA s.ds.length).filter (X1 V qf) = (L.filter fun p => qf p.1 p.2).map (·.1) := Zoq h.pr qf
def LitIs (s : Org) (q : SS) (s0 : RS) (ss cs : List Int) (e : Int) (l : List Pis) : Prop :=
  (YX [Xf s.ss.length s.cs.length ss cs, q.err] ≠ 0 ∧ e = YX [Xf s.ss.length s.cs.length ss cs, q.err] ∧ l = []) ∨
  (YX [Xf s.ss.length s.cs.length ss cs, q.err] = 0 ∧ e = 0 ∧ ∃ r : Rg, ss = YL r.1 ∧ cs = YL r.2 ∧ RgOk s.ss.length s.cs.length r ∧ l = (s0.2.filter fun p => litF s r p.1 p.2).map (·.1))
end Ip
open Ip
theorem list1_ok (a b : Value) (w0 : World) : Sp Tryz.prog 50 [a, b] w0 [] (RV (.bool true)) := by
  refine ZB Tryz.func50 rfl Tryz.ntmps50 rfl (Own.refl _) ?_
  simp only [ZU]
  refine Zc <| Za <| Zn (Z7 rfl rfl rfl (fun b2 => ?_))
  refine Zn (Z7 rfl rfl rfl (fun b3 => ?_))
  refine gas rfl rfl <| gA <| Zc <| Za <| gas rfl rfl <| gA <| Zt <| ZC (.inl rfl) Tryz.results50 rfl [] (by decide) ?_
  exact ⟨rfl, rfl⟩
theorem lit1_ok (s : Org) (bp bs : Nat) (w0 : World) (hP : PsIn s bp bs w0 []) (x : Pis) (k w : Rg) (hk : RgOk s.ss.length s.cs.length k) (hw : RgOk s.ss.length s.cs.length w) (a1 a2 a3 a4 : Option Addr) (c1 c2 c3 c4 : Nat) (h1 : OldSl w0 [] a1 k.1.length 1 (k.1.map natV)) (h2 : OldSl w0 [] a2 k.2.length 1 (k.2.map natV)) (h3 : OldSl w0 [] a3 w.1.length 1 (w.1.map natV)) (h4 : OldSl w0 [] a4 w.2.length 1 (w.2.map natV)) (b1 b2 : Nat) (hc1 : w0.cell? ⟨b1, 0, none⟩ = some (.pointer (some ⟨bp, 0, none⟩))) (hb2 : Cells w0 ⟨b2, 0, none⟩ [.slice a3 w.1.length c3, .slice a4 w.2.length c4]) : Sp Tryz.prog 51 [Pis.val x, .agg #[.slice a1 k.1.length c1, .slice a2 k.2.length c2], .pointer (some ⟨b1, 0, none⟩), .pointer (some ⟨b2, 0, none⟩)] w0 [] (RV (.bool (litF s w x k))) := by
  have hns := hP.ns
  have hnc := hP.nc
  have hpo := press_ok s x k w
  have hl1 := J4 hpo hns
  have hl2 := J5 hpo hnc
  refine ZB Tryz.func51 rfl Tryz.ntmps51 rfl (Own.refl _) ?_
  simp only [ZU]
  refine Zc <| Za <| Zn (Z7 rfl rfl rfl (fun b4 => ?_))
  refine Zn (Z7 rfl rfl rfl (fun b5 => ?_))
  refine gas rfl rfl <| gA <| Zc <| Za <| gr rfl (Zh Tryz.underlying36 rfl rfl (Vy hc1 (by simp))) ?_
  refine gr rfl (Zr Tryz.underlying23 rfl YB rfl (by exact ZH 1 (off := 0) (k := 3) rfl rfl) rfl) ?_
  refine gr rfl (Zr Tryz.underlying26 rfl ZZ rfl (by exact ZH 0 (off := 0) (k := 2) rfl rfl) rfl) ?_
  refine gr rfl (Zr Tryz.underlying26 rfl ZZ rfl (cs_old hb2 (by simp)) rfl) ?_
  refine Zn (ZD rfl (vf := []) (vc := []) rfl rfl Tryz.call48 (fun w1 ho => Zfr s bp bs w1 (hP.at ho) x k w hk hw a1 a2 a3 a4 c1 c2 c3 c4 (h1.at ho) (h2.at ho) (h3.at ho) (h4.at ho)) ?_)
  rintro _ _ ⟨rS, cS, rC, cC, rfl, rfl⟩
  refine Zn (ZO ZZ rfl rfl (fun b7 => ?_))
  refine Zn (ZA 0 ZZ rfl rfl rfl rfl rfl rfl (by rfl) ?_)
  refine gA <| Zc <| Za <| gr rfl (Zd rfl (YZ _)) <| gr rfl (Zh Tryz.underlying24 rfl rfl (by exact Zq 0 rfl rfl)) ?_
  refine gr rfl (Zd rfl (YZ _)) <| gr rfl (Zh Tryz.underlying24 rfl rfl (Yf hb2 (by simp) (j := 0) rfl)) ?_
  refine Zn (ZD rfl (vf := []) (vc := []) rfl rfl Tryz.call52 (fun w1 ho => Zhe (XW s x k w).1 w.1 _ _ _ _ (by omega) w1 (ho.rowSl 1 rfl) (h3.at ho)) ?_)
  rintro _ _ ⟨rfl, rfl⟩
  refine Z8 (fun h17 => ?_) (fun h17 => ?_)
  · refine gm rfl rfl <| Zl rfl rfl <| Zs rfl (Zd rfl (Y0 _)) <| Zl rfl rfl (Zs rfl (Zh Tryz.underlying24 rfl rfl (by exact Zq 0 rfl rfl)) ?_)
    refine Zl rfl rfl <| Zs rfl (Zd rfl (Y0 _)) <| Zl rfl rfl (Zs rfl (Zh Tryz.underlying24 rfl rfl (Yf hb2 (by simp) (j := 1) rfl)) ?_)
    refine Zl rfl rfl (ZD rfl (vf := []) (vc := []) rfl rfl Tryz.call52 (fun w1 ho => Zhe (XW s x k w).2 w.2 _ _ _ _ (by omega) w1 (ho.rowSl 2 rfl) (h4.at ho)) ?_)
    rintro _ _ ⟨rfl, rfl⟩
    refine gr rfl (ZE rfl rfl) <| gas rfl rfl <| gA <| Zt <| ZC (.inl rfl) Tryz.results51 rfl [] (by decide) ?_
    refine ⟨congrArg Value.bool (Eq.symm ?_), rfl⟩
    unfold litF
    rw [h17, Bool.true_and]
  refine gm rfl rfl <| Zu rfl rfl rfl <| Zu rfl rfl rfl <| Zu rfl rfl rfl <| Zu rfl rfl rfl <| Zu rfl rfl rfl <| gr rfl (Zo rfl rfl) <| gas rfl rfl <| gA <| Zt <| ZC (.inl rfl) Tryz.results51 rfl [] (by decide) ?_
  refine ⟨congrArg Value.bool (Eq.symm ?_), rfl⟩
  unfold litF
  rw [h17]
  rfl
theorem Zlh (q : SS) (V : Ye) (n : Nat) (s : Org) (s0 : RS) (hq : PSt s q V n s0.1 s0.2 ∨ q.Stop) (S : List Nat) (w0 : World) (hown : Own w0 S w0 q.hl) (hn : n + 100 < 1000000) (bp : Nat) (hP : PsIn s bp q.bs w0 S) : Sp Tryz.prog 17 [.pointer (some ⟨bp, 0, none⟩)] w0 S (fun v L => ∃ (r : Option Nat) (c : Nat), v = .tuple #[.slice (rowA r) (if q.err = 0 then s0.2.map (·.1) else []).length c, .int .i64 q.err] ∧ L = .row 23 3 r (if q.err = 0 then s0.2.map (·.1) else []).length c ((if q.err = 0 then s0.2.map (·.1) else []).flatMap Pis.cells) :: q.hl) := by
  refine ZB Tryz.func17 rfl Tryz.ntmps17 rfl hown ?_
  simp only [ZU]
  refine Zc <| Za <| gas rfl rfl <| gas rfl rfl <| gA <| Zc <| Zc <| Za <| gm rfl rfl <| Zn (ZD rfl (vf := []) (vc := []) rfl rfl Tryz.call43 (fun w1 ho => Jp bp true w1 (by have h9 := (hP.at ho).p 0 _ rfl; exact h9)) ?_)
  rintro _ _ ⟨rfl, rfl⟩
  refine gA <| Zk rfl <| Zx <| Zf <| Zc <| Zc <| Za <| gm rfl rfl <| Zn (Z6 [] q.hl rfl rfl (vf := []) (vc := []) rfl rfl Tryz.call46 rfl (fun w how hc => Zcn q (hq.imp (fun h => ⟨V, n, h.ok⟩) id) _ w hc s bp (hP.out (A := []) how)) ?_)
  rintro _ _ ⟨rfl, rfl⟩
  refine gas rfl rfl <| gA <| Zc <| Za <| gm rfl rfl <| gr rfl (ZP rfl rfl) (Zv (fun h10 => ?_) (fun h10 => ?_))
  · refine gA <| Zj rfl <| Zc <| Y6 23 3 <| Za <| gm rfl rfl <| gas rfl rfl <| gas rfl rfl <| gA <| Zt <| Zg <| Y1 (.inl rfl) Tryz.results17 rfl rfl (Zz 0 rfl) ?_
    exact ⟨none, 0, by rw [if_neg h10]; rfl, by rw [if_neg h10]; rfl⟩
  refine gA <| Zk rfl <| Zx <| Zf <| Zc ?_
  have hq0 : q.err = 0 := by omega
  have hst := hq.resolve_right (fun h => h.no hq0)
  refine Za <| gm rfl rfl <| Zn (Z6 [] q.hl rfl rfl (vf := []) (vc := []) rfl rfl Tryz.call49 rfl (fun w how hc => Zfs q V n hst.ok s bp _ w hc (hP.out (A := []) how) (fun _ _ => true) (fun x r hx hk => hst.rg hx hk) 50 [] Tryz.call50 (fun x k r c r2 c2 w9 l9 _ _ _ _ _ => list1_ok _ _ w9)) ?_)
  rintro _ _ ⟨rO, cO, rfl, rfl⟩
  rw [hst.listed]
  refine gas rfl rfl <| gas rfl rfl <| gA <| Zt <| Y1 (.inl rfl) Tryz.results17 rfl rfl (Zz 0 rfl) ?_
  have e9 : (s0.2.filter fun p => true).map (·.1) = s0.2.map (·.1) := by rw [List.filter_eq_self.2 (fun _ _ => rfl)]
  rw [e9]
  exact ⟨rO, cO, by rw [if_pos hq0, hq0], by rw [if_pos hq0]; rfl⟩
theorem Znt (q : SS) (V : Ye) (n : Nat) (s : Org) (s0 : RS) (hq : PSt s q V n s0.1 s0.2 ∨ q.Stop) (S : List Nat) (w0 : World) (hown : Own w0 S w0 q.hl) (hn : n + 100 < 1000000) (bp : Nat) (hP : PsIn s bp q.bs w0 S) (ss cs : List Int) (a1 a2 : Option Addr) (c1 c2 : Nat) (hl1 : ss.length ≤ 140737488355328) (hl2 : cs.length ≤ 140737488355328) (h1 : OldSl w0 S a1 ss.length 1 (ss.map Wb)) (h2 : OldSl w0 S a2 cs.length 1 (cs.map Wb)) : Sp Tryz.prog 18 [.pointer (some ⟨bp, 0, none⟩), .agg #[.slice a1 ss.length c1, .slice a2 cs.length c2]] w0 S (fun v L => ∃ (e : Int) (l : List Pis) (r : Option Nat) (c : Nat), v = .tuple #[.slice (rowA r) l.length c, .int .i64 e] ∧ L = .row 23 3 r l.length c (l.flatMap Pis.cells) :: q.hl ∧ LitIs s q s0 ss cs e l) := by
  refine ZB Tryz.func18 rfl Tryz.ntmps18 rfl hown ?_
  simp only [ZU]
  refine Zc <| Za <| Zn (Z7 rfl rfl rfl (fun b2 => ?_))
  refine Zn (Z7 rfl rfl rfl (fun b3 => ?_))
  refine gas rfl rfl <| gas rfl rfl <| gA <| Zc <| Zc <| Za <| gr rfl (Zh Tryz.underlying36 rfl rfl (by exact Zq 1 rfl rfl)) ?_
  refine Zn (ZD rfl (vf := []) (vc := []) rfl rfl Tryz.call43 (fun w1 ho => Jp bp true w1 (by have h9 := (hP.at ho).p 0 _ rfl; exact h9)) ?_)
  rintro _ _ ⟨rfl, rfl⟩
  refine gA <| Zk rfl <| Zx <| Zf <| Zc <| Zc <| YI [_, _] q.hl [0, 1] true 6 rfl rfl <| Zb 0 rfl rfl (Zz 0 rfl) (Ze (Zh Tryz.underlying36 rfl rfl (by exact Zq 1 rfl rfl))) ?_
  refine Zb 1 rfl rfl (Zz 0 rfl) (Ze (Zr Tryz.underlying26 rfl ZZ rfl (by exact ZH 0 (off := 0) (k := 2) rfl rfl) rfl)) ?_
  refine Zb 2 rfl rfl (Zz 0 rfl) (YE (vf := []) (vc := []) rfl rfl Tryz.call45 (fun w1 ho => WR s bp q.bs w1 (hP.at ho) ss cs a1 a2 c1 c2 hl1 hl2 (h1.at ho) (h2.at ho)) (by rintro _ _ ⟨h, _⟩; exact h)) ?_
  refine Zb 3 rfl rfl (Zz 0 rfl) (Ze (Zh Tryz.underlying36 rfl rfl (by exact Zq 1 rfl rfl))) ?_
  refine Zb 6 rfl rfl (Zz 0 rfl) (Ze (Zi rfl)) ?_
  refine ZF 4 rfl (.inr (Zz 0 rfl)) (Z6 [_, _] q.hl rfl rfl (vf := []) (vc := []) rfl rfl Tryz.call46 rfl (fun w how hc => Zcn q (hq.imp (fun h => ⟨V, n, h.ok⟩) id) _ w hc s bp (hP.out (A := [_, _]) how)) ?_)
  rintro _ _ ⟨rfl, rfl⟩
  refine Zb 5 rfl rfl (Zz 0 rfl) (Ze (ZQ rfl (fun _ => Zer _ _))) ?_
  refine ZR (.inr (Zz 0 rfl)) ?_
  refine Zf <| ZI <| Z3 (ι := Nat) [(2, _), (3, _), (15, _)] (_ :: _ :: q.hl) (fun k => k ≤ 2 ∧ ∀ j, j < k → [Xf s.ss.length s.cs.length ss cs, q.err].getD j 0 = 0) (fun k Fr0 => ((16, natV k) :: Fr0)) (fun k Fr0 => Fr0) (fun k => 2 - k) 0 (⟨Nat.zero_le _, fun j h => absurd h (Nat.not_lt_zero j)⟩) ⟨rfl, rfl, rfl, rfl, trivial⟩ (Zz 0 rfl) ?_
  rintro k ⟨hk, hall⟩
  refine Zc <| Za <| gr rfl (Z5 rfl rfl) (Zv (fun hlt => ?_) (fun hlt => ?_))
  · refine gA <| Zc <| Zj rfl <| Zx <| Zf <| Zc <| ZI <| Zc <| Za <| gr rfl (WV Tryz.underlying125 Tryz.underlying37 ty_37 rfl rfl (by omega) (arr2 _ _ (by omega))) ?_
    refine gas rfl rfl <| gA <| Zc <| Za <| gm rfl rfl <| gr rfl (ZP rfl rfl) (Zv (fun hne => ?_) (fun hne => ?_))
    · refine gA <| Zj rfl <| Zc <| Y6 23 3 <| Za <| gm rfl rfl <| gas rfl rfl <| gas rfl rfl <| gA <| Zt <| Zy <| Zg <| Zg <| Zy <| Zg <| Y1 (.inl rfl) Tryz.results18 rfl rfl (ZJ (A := [_]) (B := [_, _, _]) (T := q.hl) [0] 3 (by decide) (by decide) rfl rfl) ?_
      have hz := VY hall hne
      exact ⟨_, [], none, 0, rfl, rfl, .inl ⟨by rw [hz]; exact hne, by rw [hz], rfl⟩⟩
    refine gA <| Zk rfl <| Zx <| ZM <| Zf <| Za <| gr rfl (by exact ZN (b := 1) rfl rfl (by omega)) ?_
    refine gm rfl rfl <| ZW <| Zf ?_
    exact Z1 (k + 1) ⟨⟨by omega, fun j hj => by
      rcases Nat.lt_or_eq_of_le (Nat.le_of_lt_succ hj) with h | rfl
      · exact hall j h
      · omega⟩, by omega⟩ ⟨rfl, rfl, rfl, rfl, trivial⟩ (Zz 0 rfl)
  refine gA <| Zc <| Zk rfl <| Z4 <| Zw <| Zw <| ZK <| Zf <| Zc ?_
  have hz := WK (l := [Xf s.ss.length s.cs.length ss cs, q.err]) (fun j hj => hall j (by simp at hj; omega))
  have hr0 : Xf s.ss.length s.cs.length ss cs = 0 := hall 0 (by omega)
  have hq0 : q.err = 0 := hall 1 (by omega)
  have hst := hq.resolve_right (fun h => h.no hq0)
  obtain ⟨r, rfl, rfl, hr⟩ := Zmk hr0
  rw [Yy] at h1 h2
  rw [Wz] at h1 h2
  rw [Yy, Yy]
  refine Za <| gr rfl (Zh Tryz.underlying36 rfl rfl (by exact Zq 1 rfl rfl)) ?_
  refine gr rfl (XM (fs := []) (cs := [.tmp 2, .tmp 3]) rfl rfl) <| Zn (Z6 [_, _] q.hl rfl rfl (vf := []) (vc := []) rfl rfl Tryz.call49 rfl (fun w how hc => Zfs q V n hst.ok s bp _ w hc (hP.out (A := [_, _]) how) (litF s r) (fun x r hx hk => hst.rg hx hk) 51 [.pointer (some ⟨b2, 0, none⟩), .pointer (some ⟨b3, 0, none⟩)] Tryz.call51 (fun x k r5 c5 r6 c6 w9 l9 ho9 _ hk h8 h9 => lit1_ok s bp q.bs w9 ((hP.out (A := [_, _]) how).at ho9) x k r hk hr _ _ a1 a2 c5 c6 c1 c2 h8 h9 ((slOutW how h1 (by decide) []).at ho9) ((slOutW how h2 (by decide) []).at ho9) b2 b3 (ho9.cellOld (how.blkCell 1 rfl rfl) (how.blkOutT 1 rfl)) ((how.blkCells 0 rfl).atS ho9 (how.blkOutT 0 rfl)))) ?_)
  rintro _ _ ⟨rO, cO, rfl, rfl⟩
  rw [hst.listed]
  refine gas rfl rfl <| gas rfl rfl <| gA <| Zt <| Y1 (.inl rfl) Tryz.results18 rfl rfl (Zz 2 rfl) ?_
  exact ⟨0, _, rO, cO, rfl, rfl, .inr ⟨hz, rfl, r, rfl, rfl, hr, rfl⟩⟩
namespace Ip
def Done (s : Org) (q : SS) (n : Nat) (t : RS) (e : Int) (v : Value) (T : List HL) : Prop := ∃ (q2 : SS) (V2 : Ye), T = q2.hl ∧ q.Like q2 ∧ PSt s q2 V2 n t.1 t.2 ∧ v = .int .i64 e
def Broke (s : Org) (q : SS) (n : Nat) (t1 t2 : RS) (v : Value) (T : List HL) : Prop := v = .int .i64 9 ∧ q.f.left ≠ -1 ∧ ∃ (q2 : SS) (V1 V2 : Ye), T = q2.hl ∧ q.Like q2 ∧ q2.Torn n V1 V2 ∧ PR s.ds.length s.ss.length s.cs.length V1 t1.1 t1.2 ∧ PR s.ds.length s.ss.length s.cs.length V2 t2.1 t2.2
section
variable {s : Org} {q : SS} {V : Ye} {n : Nat} {t : RS} {x : Pis} {ss cs : List Int} {v : Value} {T : List HL}
theorem put_conv (h : PSt s q V n t.1 t.2) (hx : pnE s.ds.length x = 0) {vs : List Nat} {t2 : RS} (hpr : PR s.ds.length s.ss.length s.cs.length (Zap V (keyN x) (q.num + 1) vs) t2.1 t2.2) (hR : PutR q V n (keyN x) vs v T) :
    (Zac q.cap t.1 x ∧ v = .int .i64 5 ∧ T = q.hl) ∨ (¬ Zac q.cap t.1 x ∧ (Done s q (n + 1) t2 0 v T ∨ Broke s q (n + 1) t t2 v T)) := by
  have hf := h.full hx
  rcases hR with ⟨h1, rfl, rfl⟩ | ⟨h1, q2, rfl, hq2, hlk, rfl⟩ | ⟨h1, q2, rfl, hl, hq2, hlk, rfl⟩
  · exact .inl ⟨hf.1 h1, rfl, rfl⟩
  · exact .inr ⟨fun h2 => h1 (hf.2 h2), .inl ⟨q2, _, rfl, hlk, ⟨hq2, hpr⟩, rfl⟩⟩
  · exact .inr ⟨fun h2 => h1 (hf.2 h2), .inr ⟨rfl, hl, q2, _, _, rfl, hlk, hq2, h.pr, hpr⟩⟩
theorem Done.same (h : PSt s q V n t.1 t.2) {m : Nat} (hm : n ≤ m) {e : Int} : Done s q m t e (.int .i64 e) q.hl := ⟨q, V, rfl, SS.Like.refl q, h.mono hm, rfl⟩
theorem set_conv (h : PSt s q V n t.1 t.2) (hR : SetR s q V n x ss cs v T) :
    Done s q (n + 1) (JW s q.cap t x ss cs).1 (JW s q.cap t x ss cs).2 v T ∨ ((JW s q.cap t x ss cs).2 = 0 ∧ Broke s q (n + 1) t (JW s q.cap t x ss cs).1 v T) := by
  have h0 := h.ok.zero
  have hz : YX [pnE s.ds.length x, Xf s.ss.length s.cs.length ss cs, q.err] = if pnE s.ds.length x ≠ 0 then pnE s.ds.length x else if Xf s.ss.length s.cs.length ss cs ≠ 0 then Xf s.ss.length s.cs.length ss cs else 0 := by
    rw [h0]; simp [YX]
  unfold JW
  rcases hR with ⟨h1, rfl, rfl⟩ | ⟨h1, hq, hx, r, rfl, rfl, hr, hput⟩
  · rw [hz] at h1 ⊢
    by_cases hp : pnE s.ds.length x ≠ 0
    · rw [if_pos hp, if_pos hp]
      exact .inl (Done.same h (by omega))
    · rw [if_neg hp] at h1 ⊢
      by_cases hg : Xf s.ss.length s.cs.length ss cs ≠ 0
      · rw [if_pos hg, if_neg hp, if_pos hg]
        exact .inl (Done.same h (by omega))
      · rw [if_neg hg] at h1; exact absurd rfl h1
  · have hg : Xf s.ss.length s.cs.length (YL r.1) (YL r.2) = 0 := reg_of hr
    rw [if_neg (by omega), if_neg (by omega), Zhl]
    have hwo := Zat (s := s) x hr
    rcases put_conv h hx (t2 := (JS t.1 x, JQ t.2 x (Vx s x r))) (h.pr.set hx hwo (q.num + 1)) hput with ⟨hf, rfl, rfl⟩ | ⟨hf, hd⟩
    · rw [if_pos hf]
      exact .inl (Done.same h (by omega))
    · rw [if_neg hf]
      rcases hd with hd | hd
      · exact .inl hd
      · exact .inr ⟨rfl, hd⟩
theorem Zmr (h : PSt s q V n t.1 t.2) {e : Int} {p : Rg} (hR : Zi1 s q V n x ss cs e p) : e = (Zbz s t x ss cs).2 ∧ p = (Zbz s t x ss cs).1 := by
  have h0 := h.ok.zero
  have hz : YX [pnE s.ds.length x, Xf s.ss.length s.cs.length ss cs, q.err] = if pnE s.ds.length x ≠ 0 then pnE s.ds.length x else if Xf s.ss.length s.cs.length ss cs ≠ 0 then Xf s.ss.length s.cs.length ss cs else 0 := by
    rw [h0]; simp [YX]
  unfold Zbz
  rcases hR with ⟨h1, rfl, rfl⟩ | ⟨h1, hq, hx, r, rfl, rfl, hr, hk⟩
  · rw [hz] at h1 ⊢
    by_cases hp : pnE s.ds.length x ≠ 0
    · rw [if_pos hp, if_pos hp]; exact ⟨rfl, rfl⟩
    · rw [if_neg hp] at h1 ⊢
      by_cases hg : Xf s.ss.length s.cs.length ss cs ≠ 0
      · rw [if_pos hg, if_neg hp, if_pos hg]; exact ⟨rfl, rfl⟩
      · rw [if_neg hg] at h1; exact absurd rfl h1
  · have hg : Xf s.ss.length s.cs.length (YL r.1) (YL r.2) = 0 := reg_of hr
    rw [if_neg (by omega), if_neg (by omega), Zhl, ← h.kept hx]
    rcases hk with ⟨hk, rfl, rfl⟩ | ⟨k, hk, rfl, rfl⟩
    · rw [hk]; exact ⟨rfl, rfl⟩
    · rw [hk]; exact ⟨rfl, rfl⟩
end
structure Ac where
  what : Nat
  x : Pis
  a1 : Option Addr
  c1 : Nat
  ss : List Int
  a2 : Option Addr
  c2 : Nat
  cs : List Int
  frm : Int
  to : Int
  deriving Inhabited
abbrev Ac.cells (a : Ac) : List Value := [.int .u8 (a.what : Int), .int .i64 a.x.lv, .int .i64 a.x.dv, .int .i64 a.x.nm, .slice a.a1 a.ss.length a.c1, .slice a.a2 a.cs.length a.c2, .int .i64 a.frm, .int .i64 a.to]
abbrev Ac.val (a : Ac) : Value := .agg #[.int .u8 (a.what : Int), .int .i64 a.x.lv, .int .i64 a.x.dv, .int .i64 a.x.nm, .slice a.a1 a.ss.length a.c1, .slice a.a2 a.cs.length a.c2, .int .i64 a.frm, .int .i64 a.to]
structure AcIn (a : Ac) (w : World) (S : List Nat) : Prop where
  s : OldSl w S a.a1 a.ss.length 1 (a.ss.map Wb)
  c : OldSl w S a.a2 a.cs.length 1 (a.cs.map Wb)
structure AcLe (a : Ac) : Prop where
  w : a.what < 256
  s : a.ss.length ≤ 140737488355328
  c : a.cs.length ≤ 140737488355328
theorem AcIn.at {a : Ac} {w0 w : World} {S : List Nat} {l : List HL} (h : AcIn a w0 S) (ho : Own w0 S w l) : AcIn a w [] := ⟨h.s.at ho, h.c.at ho⟩
structure AcsIn (la : Option Addr) (l : List Ac) (w : World) (S : List Nat) : Prop where
  t : OldSl w S la l.length 8 (l.flatMap Ac.cells)
  r : ∀ a ∈ l, AcIn a w S
theorem AcsIn.at {la : Option Addr} {l : List Ac} {w0 w : World} {S : List Nat} {h : List HL} (hi : AcsIn la l w0 S) (ho : Own w0 S w h) : AcsIn la l w [] := ⟨hi.t.at ho, fun a ha => (hi.r a ha).at ho⟩
end Ip
open Ip
theorem Same_ok (xs ys xt yt : List Int) (x1 y1 x2 y2 : Option Addr) (ca cb ca2 cb2 : Nat) (hxl : xs.length ≤ 140737488355328) (hxl2 : xt.length ≤ 140737488355328) (w0 : World) (hx : OldSl w0 [] x1 xs.length 1 (xs.map Wb)) (hx2 : OldSl w0 [] x2 xt.length 1 (xt.map Wb)) (hy : OldSl w0 [] y1 ys.length 1 (ys.map Wb)) (hy2 : OldSl w0 [] y2 yt.length 1 (yt.map Wb)) : Sp Tryz.prog 32 [.agg #[.slice x1 xs.length ca, .slice x2 xt.length ca2], .agg #[.slice y1 ys.length cb, .slice y2 yt.length cb2]] w0 [] (RV (.bool (decide (xs = ys) && decide (xt = yt)))) := by
  refine ZB Tryz.func32 rfl Tryz.ntmps32 rfl (Own.refl _) ?_
  simp only [ZU]
  refine Zc <| Za <| Zn (Z7 rfl rfl rfl (fun b2 => ?_))
  refine Zn (Z7 rfl rfl rfl (fun b3 => ?_))
  refine gas rfl rfl <| gA <| Zc <| Za <| gr rfl (Zd rfl (YZ _)) <| gr rfl (Zh Tryz.underlying24 rfl rfl (by exact Zq 1 rfl rfl)) ?_
  refine gr rfl (Zd rfl (YZ _)) <| gr rfl (Zh Tryz.underlying24 rfl rfl (by exact Zq 0 rfl rfl)) ?_
  refine Zn (ZD rfl (vf := []) (vc := []) rfl rfl Tryz.call74 (fun w1 ho => Zc5 xs ys x1 y1 ca cb hxl w1 (hx.at ho) (hy.at ho)) ?_)
  rintro _ _ ⟨rfl, rfl⟩
  refine Z8 (fun h9 => ?_) (fun h9 => ?_)
  · refine gm rfl rfl <| Zl rfl rfl <| Zs rfl (Zd rfl (Y0 _)) <| Zl rfl rfl (Zs rfl (Zh Tryz.underlying24 rfl rfl (by exact Zq 1 rfl rfl)) ?_)
    refine Zl rfl rfl <| Zs rfl (Zd rfl (Y0 _)) <| Zl rfl rfl (Zs rfl (Zh Tryz.underlying24 rfl rfl (by exact Zq 0 rfl rfl)) ?_)
    refine Zl rfl rfl (ZD rfl (vf := []) (vc := []) rfl rfl Tryz.call74 (fun w1 ho => Zc5 xt yt x2 y2 ca2 cb2 hxl2 w1 (hx2.at ho) (hy2.at ho)) ?_)
    rintro _ _ ⟨rfl, rfl⟩
    refine gr rfl (ZE rfl rfl) <| gas rfl rfl <| gA <| Zt <| ZC (.inl rfl) Tryz.results32 rfl [] (by decide) ?_
    rw [h9, Bool.true_and]
    exact ⟨rfl, rfl⟩
  refine gm rfl rfl <| Zu rfl rfl rfl <| Zu rfl rfl rfl <| Zu rfl rfl rfl <| Zu rfl rfl rfl <| Zu rfl rfl rfl <| gr rfl (Zo rfl rfl) <| gas rfl rfl <| gA <| Zt <| ZC (.inl rfl) Tryz.results32 rfl [] (by decide) ?_
  rw [h9]
  exact ⟨rfl, rfl⟩
namespace Ip
theorem SameN_ok (k w : Rg) (a b a2 b2 : Option Addr) (ca cb ca2 cb2 : Nat) (h1 : k.1.length ≤ 140737488355328) (h2 : k.2.length ≤ 140737488355328) (w0 : World) (hx : OldSl w0 [] a k.1.length 1 (k.1.map natV)) (hx2 : OldSl w0 [] a2 k.2.length 1 (k.2.map natV)) (hy : OldSl w0 [] b w.1.length 1 (w.1.map natV)) (hy2 : OldSl w0 [] b2 w.2.length 1 (w.2.map natV)) : Sp Tryz.prog 32 [.agg #[.slice a k.1.length ca, .slice a2 k.2.length ca2], .agg #[.slice b w.1.length cb, .slice b2 w.2.length cb2]] w0 [] (RV (.bool (decide (k.1 = w.1) && decide (k.2 = w.2)))) := by
  have e := Same_ok (YL k.1) (YL w.1) (YL k.2) (YL w.2) a b a2 b2 ca cb ca2 cb2 (by rw [Yy]; exact h1) (by rw [Yy]; exact h2) w0 (by rw [Yy, Wz]; exact hx) (by rw [Yy, Wz]; exact hx2) (by rw [Yy, Wz]; exact hy) (by rw [Yy, Wz]; exact hy2)
  rw [Yy, Yy, Yy, Yy] at e
  have e1 : decide (YL k.1 = YL w.1) = decide (k.1 = w.1) := by rw [decide_eq_decide]; exact ⟨Zg8, fun h => by rw [h]⟩
  have e2 : decide (YL k.2 = YL w.2) = decide (k.2 = w.2) := by rw [decide_eq_decide]; exact ⟨Zg8, fun h => by rw [h]⟩
  rw [e1, e2] at e
  exact e
end Ip
namespace Ip
theorem Znu {w0 : World} {S : List Nat} {l : List HL} {a : Option Addr} {m size off f g : Nat} {cells : List Value} {v : Value} (h : OldSl w0 S a m size cells) (hv : cells[off + (f + g)]? = some v) : ∀ w, Own w0 S w l → w.cell? ((((adr a).add off).add f).add g) = some v :=
  fun w ho => by rw [add_add, add_add]; exact (h.at ho).cells (off + (f + g)) v hv
theorem Zhm {l : List Ac} {k j : Nat} {a : Ac} {v : Value} (hx : l[k]? = some a) (hv : a.cells[j]? = some v) : (l.flatMap Ac.cells)[k * 8 + j]? = some v := by
  have hlt : k < l.length := (List.getElem?_eq_some_iff.1 hx).1
  have hj : j < 8 := (List.getElem?_eq_some_iff.1 hv).1
  rw [flat_get Ac.cells 8 (fun _ => rfl) a l k j hlt hj, show l.getD k a = a by simp [List.getD, hx]]
  exact hv
end Ip
theorem great_ok (la : Option Addr) (lc : Nat) (l : List Ac) (m : Nat) (hm : m ≤ 1000) (hll : l.length ≤ 140737488355328) (w0 : World) (hl : AcsIn la l w0 []) : Sp Tryz.prog 9 [.slice la l.length lc, natV m] w0 [] (fun v L => ∃ b, v = .bool b ∧ L = [] ∧ (b = false → l.length ≤ m)) := by
  refine ZB Tryz.func9 rfl Tryz.ntmps9 rfl (Own.refl _) ?_
  simp only [ZU]
  refine Zc <| Za <| gas rfl rfl <| gA <| Zc <| Zc <| Za <| gm rfl rfl <| gr rfl (ZG Tryz.underlying30 rfl) <| gm rfl rfl <| gr rfl (YG rfl rfl) (Zv (fun h9 => ?_) (fun h9 => ?_))
  · refine gA <| Zj rfl <| Zc <| Za <| gas rfl rfl <| gA <| Zt <| Zg <| ZC (.inl rfl) Tryz.results9 rfl [] (by decide) ?_
    exact ⟨true, rfl, rfl, fun h => by cases h⟩
  refine gA <| Zk rfl <| Zx <| Zf <| Zc <| Zc <| Za <| gas rfl rfl <| gA <| ZI <| Z3 (ι := Nat) [(0, _)] [] (fun k => k ≤ l.length) (fun k Fr0 => ((5, natV k) :: Fr0)) (fun k Fr0 => Fr0) (fun k => l.length - k) 0 (Nat.zero_le _) ⟨rfl, rfl, trivial⟩ ⟨[], by decide, rfl⟩ ?_
  rintro k hk
  refine Zc <| Zc <| Za <| gm rfl rfl <| gm rfl rfl <| gr rfl (ZG Tryz.underlying30 rfl) <| gr rfl (Z5 rfl rfl) (Zv (fun h13 => ?_) (fun h13 => ?_))
  · obtain ⟨a, hx⟩ := get_some (show k < l.length by omega)
    refine gA <| Zj rfl <| Zx <| Zf <| Zc <| ZI <| Zc <| Za <| gm rfl rfl <| gm rfl rfl <| gr rfl (YK hl.t Tryz.underlying30 ty_28 rfl rfl (by omega) (by omega)) ?_
    refine gr rfl (Zd rfl (Zh3 _)) <| gr rfl (Zd rfl (YZ _)) <| gr rfl (Zh Tryz.underlying24 rfl rfl (Znu hl.t (Zhm hx (j := 4) rfl))) <| gr rfl (ZG Tryz.underlying24 rfl) <| gr rfl (YG rfl rfl) (Zv (fun h23 => ?_) (fun h23 => ?_))
    · refine gm rfl rfl <| Zu rfl rfl rfl <| Zu rfl rfl rfl <| Zu rfl rfl rfl <| Zu rfl rfl rfl <| Zu rfl rfl rfl <| Zu rfl rfl rfl <| Zu rfl rfl rfl <| Zu rfl rfl rfl <| gr rfl (ZE rfl rfl) <| gA <| Zj rfl <| Zc <| Za <| gas rfl rfl <| gA <| Zt <| Zy <| Zg <| Zg <| Zy <| Zg <| ZC (.inl rfl) Tryz.results9 rfl [] (by decide) ?_
      exact ⟨true, rfl, rfl, fun h => by cases h⟩
    refine gm rfl rfl <| Zl rfl rfl <| Zs rfl (Zi rfl) <| Zl rfl rfl <| Zs rfl (Zi rfl) <| Zl rfl rfl (Zs rfl (YK hl.t Tryz.underlying30 ty_28 rfl rfl (by omega) (by omega)) ?_)
    refine Zl rfl rfl <| Zs rfl (Zd rfl (Zh3 _)) <| Zl rfl rfl <| Zs rfl (Zd rfl (Y0 _)) <| Zl rfl rfl <| Zs rfl (Zh Tryz.underlying24 rfl rfl (Znu hl.t (Zhm hx (j := 5) rfl))) <| Zl rfl rfl <| Zs rfl (ZG Tryz.underlying24 rfl) <| Zl rfl rfl (Zs rfl (YG rfl rfl) (Zv (fun h32 => ?_) (fun h32 => ?_)))
    · refine gr rfl (Zo rfl rfl) <| gA <| Zj rfl <| Zc <| Za <| gas rfl rfl <| gA <| Zt <| Zy <| Zg <| Zg <| Zy <| Zg <| ZC (.inl rfl) Tryz.results9 rfl [] (by decide) ?_
      exact ⟨true, rfl, rfl, fun h => by cases h⟩
    refine gr rfl (Zo rfl rfl) <| gA <| Zk rfl <| Zx <| ZM <| Zf <| Za <| gm rfl rfl <| gr rfl (by exact ZN (b := 1) rfl rfl (by omega)) ?_
    refine gas rfl rfl <| ZW <| Zf ?_
    exact Z1 (k + 1) ⟨by omega, by omega⟩ ⟨rfl, rfl, trivial⟩ ⟨[], by decide, rfl⟩
  refine gA <| Zk rfl <| Z4 <| Zw <| Zw <| ZK <| Zf <| Zc <| Za <| gas rfl rfl <| gA <| Zt <| ZC (.inl rfl) Tryz.results9 rfl [] (by decide) ?_
  exact ⟨false, rfl, rfl, fun _ => by omega⟩
namespace Ip
theorem fresh_fi {n : Nat} (h4 : 4 ≤ n) (h64 : n ≤ 64) : FI (flNew (List.replicate (256 * n) 255)).b 0 (fun _ => none) ∧ (∃ q, q < (flNew (List.replicate (256 * n) 255)).b.length / 256 ∧ Ve (flNew (List.replicate (256 * n) 255)).b q) := by
  have hF := Zgy h4 h64
  have hl := hF.len
  have hall : ∀ z ∈ (flNew (List.replicate (256 * n) 255)).b, z = 255 := fun z hz => List.eq_of_mem_replicate hz
  refine ⟨fi_new hall (by rw [hl]; omega) (by rw [hl]; omega), 0, by rw [hl]; omega, Zfh (fun z hz => by rw [hall z hz]; decide) fun i hi => ?_⟩
  exact hall _ (Zmg (by rw [hl]; omega))
structure SS.New (q : SS) (n : Nat) : Prop where
  ok : q.Ok (fun _ => none) 1
  len : q.f.b.length = 256 * n
  left : q.f.left = -1
  st : q.f.st = 1
  m0 : q.m.length = 0
end Ip
theorem Zli (n : Nat) (hn4 : 4 ≤ n) (hn64 : n ≤ 64) (w0 : World) : Sp Tryz.prog 11 [natV n] w0 [] (fun v L => ∃ q : SS, v = .tuple #[.pointer (some ⟨q.bf, 0, none⟩), .pointer (some ⟨q.bs, 0, none⟩)] ∧ q.New n ∧ L = q.hl) := by
  refine ZB Tryz.func11 rfl Tryz.ntmps11 rfl (Own.refl _) ?_
  simp only [ZU]
  refine Zc <| Za <| gas rfl rfl <| gas rfl rfl <| gA <| Zc <| Za <| gm rfl rfl <| Zn (ZD rfl (vf := []) (vc := []) rfl rfl Tryz.call34 (fun w1 ho => New_ok n hn4 hn64 w1) ?_)
  rintro _ _ ⟨bf, rb, cb, rfl, rfl⟩
  refine gm rfl rfl <| gr rfl (Zp rfl rfl) <| gr rfl (Zp rfl rfl) <| gas rfl rfl <| gas rfl rfl <| gA <| Zc <| Za <| gr rfl (Zi rfl) ?_
  obtain ⟨hfi, hsp⟩ := fresh_fi hn4 hn64
  have hF := Zgy hn4 hn64
  refine Zn (Yg [0, 1, 2] [] rfl (vf := []) (vc := []) rfl rfl Tryz.call28 (by decide) rfl (fun w how hc => OpenG_ok _ hF.ok bf rb cb none 0 0 _ hfi hsp (Zg6 _) _ w hc (show (0 : Nat) + 1 < 4611686018427387904 by decide) (by rw [hF.er]; decide) hF.dn) ?_)
  rintro _ _ (⟨bs, bm, m, nb, T, num, f2, bk, rfl, hg, rfl⟩ | ⟨f2, rfl, hT, rfl⟩)
  · refine V9 [] (SS.mk f2 bs bf rb cb none 0 1 bm num bk m nb T).hl [] <| gm rfl rfl <| gr rfl (Zp rfl rfl) <| gr rfl (Zp rfl rfl) <| gas rfl rfl <| gas rfl rfl <| gA <| Zc <| Zc <| Za <| gm rfl rfl <| gr rfl (ZP rfl rfl) (Zv (fun h19 => ?_) (fun h19 => ?_))
    · exact absurd rfl h19
    refine gm rfl rfl <| Zl rfl rfl <| Zs rfl (Zi rfl) <| Zl rfl rfl (Zs rfl (ZP rfl rfl) (Zv (fun h22 => ?_) (fun h22 => ?_)))
    · exact absurd rfl h22
    refine gr rfl (Zo rfl rfl) <| gA <| Zk rfl <| Zx <| Zf <| Zc <| Za <| gm rfl rfl <| gm rfl rfl <| gas rfl rfl <| gas rfl rfl <| gA <| Zt <| Y1 (.inl rfl) Tryz.results11 rfl rfl (ZJ (A := []) (B := []) (T := (SS.mk f2 bs bf rb cb none 0 1 bm num bk m nb T).hl) [] 0 (by decide) (by decide) rfl rfl) ?_
    refine ⟨SS.mk f2 bs bf rb cb none 0 1 bm num bk m nb T, rfl, ⟨⟨hg.st, ?_, ?_, ?_⟩, ?_, ?_, ?_, ?_⟩, rfl⟩
    · show f2.pr ≤ 100000 * 1
      rw [hg.pr, hF.pr]; decide
    · show f2.er ≤ 1
      have := hg.er
      rw [hF.er] at this; exact this
    · show num ≤ 1
      have := hg.num; omega
    · show f2.b.length = 256 * n
      rw [hg.len]; exact hF.len
    · exact hg.no hF.left
    · show f2.st = 1
      rw [hg.hst]; rfl
    · have := Zg6 0 _ _ _ _ hg.st.si
      simpa [plain] using this
  exact absurd hF.left hT.no
end Go.Proofs.YthcbcdjkfefnlaaGreatDoor
namespace Go.Proofs.YthcbcdjkfefnlaaGreatDoor
open Go.Gv
open Go.RowKit
open Go.Sn hiding En keysP keysP_len stop_ok
open Go.Ps
open Iv Sx Ip
open Go.Deep Go.ChangeShapes Go.WideShapes
namespace Ip
theorem len5 {cs : List Value} (h : cs.length = 5) : ∃ a b c d e, cs = [a, b, c, d, e] := by
  match cs, h with
  | [a, b, c, d, e], _ => exact ⟨a, b, c, d, e, rfl⟩
theorem len8 {cs : List Value} (h : cs.length = 8) : ∃ a b c d e f g i, cs = [a, b, c, d, e, f, g, i] := by
  match cs, h with
  | [a, b, c, d, e, f, g, i], _ => exact ⟨a, b, c, d, e, f, g, i, rfl⟩
section
variable {H : Type} {enc : TypeId × Value → H} {W : World} {base : Nat} {sp : Nat → Bool} {held : Bool}
theorem Zhn {n : Nat} {cs : List Value} {x : DataW H × List MemPlace} (h : DataW.trod enc Tryz.prog W base sp held n 24 cs = some x) (hw : ∀ b ∈ x.1.weights Tryz.prog 24, b ≤ reachBytes) :
    ∃ (a : Option Addr) (gs : List Int) (cp : Nat), cs = [.slice a gs.length cp] ∧ OldSl W [] a gs.length 1 (gs.flatMap (fun z : Int => [Wb z])) ∧ gs.length ≤ 140737488355328 ∧ gs.length ≤ cp ∧ ∀ g ∈ gs, (fun _ => True) g :=
  openSlW (fun z : Int => [Wb z]) (fun _ => True) 1 24 3 8 (fun _ => rfl) (by decide) Tryz.underlying24 (by kernel_rfl) (by kernel_rfl) (by decide) (fun n cs x h hw => by
    obtain ⟨z, e, _⟩ := DataW.trod_int Tryz.underlying3 h
    exact ⟨z, e, trivial⟩) h hw
theorem openPis {n : Nat} {cs : List Value} {x : DataW H × List MemPlace} (h : DataW.trod enc Tryz.prog W base sp held n 23 cs = some x) (hw : ∀ b ∈ x.1.weights Tryz.prog 23, b ≤ reachBytes) : ∃ g : Pis, cs = Pis.cells g := by
  obtain ⟨k, hl, hf⟩ := fld Tryz.underlying23 h hw
  rw [show Tryz.prog.cellsOf 23 = 3 by kernel_rfl] at hl
  obtain ⟨u0, u1, u2, rfl⟩ := len3 hl
  obtain ⟨y0, t0, w0⟩ := hf 0 _ 1 rfl (by kernel_rfl)
  replace t0 : DataW.trod enc Tryz.prog W base sp held k 3 [u0] = some y0 := t0
  obtain ⟨z0, rfl⟩ := Zk3 Tryz.underlying3 t0
  obtain ⟨y1, t1, w1⟩ := hf 1 _ 1 rfl (by kernel_rfl)
  replace t1 : DataW.trod enc Tryz.prog W base sp held k 3 [u1] = some y1 := t1
  obtain ⟨z1, rfl⟩ := Zk3 Tryz.underlying3 t1
  obtain ⟨y2, t2, w2⟩ := hf 2 _ 1 rfl (by kernel_rfl)
  replace t2 : DataW.trod enc Tryz.prog W base sp held k 3 [u2] = some y2 := t2
  obtain ⟨z2, rfl⟩ := Zk3 Tryz.underlying3 t2
  exact ⟨⟨z0, z1, z2⟩, rfl⟩
theorem openReg {n : Nat} {cs : List Value} {x : DataW H × List MemPlace} (h : DataW.trod enc Tryz.prog W base sp held n 26 cs = some x) (hw : ∀ b ∈ x.1.weights Tryz.prog 26, b ≤ reachBytes) : ∃ (b1 : Option Addr) (e1 : Nat) (ss : List Int) (b2 : Option Addr) (e2 : Nat) (ds : List Int), cs = [.slice b1 ss.length e1, .slice b2 ds.length e2] ∧ OldSl W [] b1 ss.length 1 (ss.map Wb) ∧ OldSl W [] b2 ds.length 1 (ds.map Wb) ∧ ss.length ≤ 140737488355328 ∧ ds.length ≤ 140737488355328 := by
  obtain ⟨k, hl, hf⟩ := fld Tryz.underlying26 h hw
  rw [show Tryz.prog.cellsOf 26 = 2 by kernel_rfl] at hl
  obtain ⟨u0, u1, rfl⟩ := len2 hl
  obtain ⟨y0, t0, w0⟩ := hf 0 _ 1 rfl (by kernel_rfl)
  replace t0 : DataW.trod enc Tryz.prog W base sp held k 24 [u0] = some y0 := t0
  obtain ⟨a0, l0, c0, e0, s0, m0, o0, g0⟩ := Zhn t0 w0
  simp only [List.cons.injEq, and_true] at e0
  subst e0
  obtain ⟨y1, t1, w1⟩ := hf 1 _ 1 rfl (by kernel_rfl)
  replace t1 : DataW.trod enc Tryz.prog W base sp held k 24 [u1] = some y1 := t1
  obtain ⟨a1, l1, c1, e1, s1, m1, o1, g1⟩ := Zhn t1 w1
  simp only [List.cons.injEq, and_true] at e1
  subst e1
  exact ⟨a0, c0, l0, a1, c1, l1, rfl, by rw [← Zk4 Wb]; exact s0, by rw [← Zk4 Wb]; exact s1, m0, m1⟩
theorem openAct {n : Nat} {cs : List Value} {x : DataW H × List MemPlace} (h : DataW.trod enc Tryz.prog W base sp held n 28 cs = some x) (hw : ∀ b ∈ x.1.weights Tryz.prog 28, b ≤ reachBytes) : ∃ g : Ac, cs = g.cells ∧ AcIn g W [] ∧ AcLe g := by
  obtain ⟨k, hl, hf⟩ := fld Tryz.underlying28 h hw
  rw [show Tryz.prog.cellsOf 28 = 8 by kernel_rfl] at hl
  obtain ⟨u0, u1, u2, u3, u4, u5, u6, u7, rfl⟩ := len8 hl
  obtain ⟨y0, t0, w0⟩ := hf 0 _ 1 rfl (by kernel_rfl)
  replace t0 : DataW.trod enc Tryz.prog W base sp held k 5 [u0] = some y0 := t0
  obtain ⟨z0, rfl, b0⟩ := leafU8 Tryz.underlying5 t0
  obtain ⟨y1, t1, w1⟩ := hf 1 _ 3 rfl (by kernel_rfl)
  replace t1 : DataW.trod enc Tryz.prog W base sp held k 23 [u1, u2, u3] = some y1 := t1
  obtain ⟨p1, e1x⟩ := openPis t1 w1
  simp only [Pis.cells, List.cons.injEq, and_true] at e1x
  obtain ⟨rfl, rfl, rfl⟩ := e1x
  obtain ⟨y2, t2, w2⟩ := hf 2 _ 2 rfl (by kernel_rfl)
  replace t2 : DataW.trod enc Tryz.prog W base sp held k 26 [u4, u5] = some y2 := t2
  obtain ⟨b2, e2, ss2, d2, f2, ds2, e2x, o2, q2, m2, n2⟩ := openReg t2 w2
  simp only [Pis.cells, List.cons.injEq, and_true] at e2x
  obtain ⟨rfl, rfl⟩ := e2x
  obtain ⟨y3, t3, w3⟩ := hf 3 _ 1 rfl (by kernel_rfl)
  replace t3 : DataW.trod enc Tryz.prog W base sp held k 3 [u6] = some y3 := t3
  obtain ⟨z3, rfl⟩ := Zk3 Tryz.underlying3 t3
  obtain ⟨y4, t4, w4⟩ := hf 4 _ 1 rfl (by kernel_rfl)
  replace t4 : DataW.trod enc Tryz.prog W base sp held k 3 [u7] = some y4 := t4
  obtain ⟨z4, rfl⟩ := Zk3 Tryz.underlying3 t4
  exact ⟨⟨z0, p1, b2, e2, ss2, d2, f2, ds2, z3, z4⟩, rfl, ⟨o2, q2⟩, ⟨b0, m2, n2⟩⟩
end
end Ip
end Go.Proofs.YthcbcdjkfefnlaaGreatDoor
namespace Go.Proofs.YthcbcdjkfefnlaaGreatDoor
open Go.Gv
open Go.RowKit
open Go.Sn hiding En keysP keysP_len stop_ok
open Go.Ps
open Iv Sx Ip
open Go.ChangeShapes Go.WideShapes Go.ChangeAt Go.WideMaps Go.WideElems
namespace Ip
theorem tryLaid : laidOutB Tryz.prog = true := by kernel_rfl
theorem tryOwn : ownKnob Tryz.prog.godebug = none := by kernel_rfl
theorem stays {H : Type} {enc : TypeId × Value → H} {W W' : World} (hb : Below W.heap.size W W') {sp : Nat → Bool} : ∀ {ts : List TypeId} {vs : List Value} {ds : List (DataW H)} {p : List MemPlace},
    DataW.TrodAll enc Tryz.prog W 0 (fun _ => true) true ts vs ds p → (∀ t ∈ ts, Tryz.prog.readableRec t = true ∧ t < Tryz.prog.types.size) → (∀ x ∈ p, x.block < W.heap.size) → (∀ x ∈ p, sp x.block = true) → DataW.TrodAll enc Tryz.prog W' 0 sp true ts vs ds p
  | [], _, _, _, h, _, _, _ => by
    obtain ⟨rfl, rfl, rfl⟩ := trodAll_nil h
    exact h
  | t :: ts, _, _, _, h, hr, hlt, hsp => by
    obtain ⟨v, vs1, d, ds1, a, b, rfl, rfl, rfl, h1, h2⟩ := trodAll_cons h
    have hr1 := hr t (by simp)
    exact ⟨a, b, WideElems.Trod_stays tryLaid hr1.1 hr1.2 h1 (fun x hx => hb.same (hlt x (List.mem_append_left _ hx))) (fun x hx => hsp x (List.mem_append_left _ hx)),
      stays hb h2 (fun u hu => hr u (List.mem_cons_of_mem _ hu)) (fun x hx => hlt x (List.mem_append_right _ hx)) (fun x hx => hsp x (List.mem_append_right _ hx)), rfl⟩
theorem law_post {H : Type} {enc : TypeId × Value → H} {f : Func} {s : ChangeSpec} {fresh handsOn again : Bool} {W W' : World} {args : Array Value} {ds gs : List (DataW H)} {before : List MemPlace}
    (hW : DataW.Whole enc Tryz.prog f.params.toList s.vars false W args.toList ds gs before) (hv : s.vars = []) (hb : Below W.heap.size W W')
    (hrt : f.resultTypes = #[4]) (hres : (s.fn H ds).results = [.lit (.bool true)]) (hargs : (s.fn H ds).args = ds) (hvars : (s.fn H ds).vars = []) (hr : ∀ t ∈ f.params.toList, Tryz.prog.readableRec t = true ∧ t < Tryz.prog.types.size) :
    s.post enc Tryz.prog f false fresh handsOn again W args (.bool true) W' := by
  have hlt : ∀ x ∈ before, x.block < W.heap.size := fun x hx => by simpa using hW.lt x hx
  have hW0 := hW
  obtain ⟨p, q, hA, hV, rfl, hz, hn⟩ := hW
  rw [hv] at hV
  obtain ⟨rfl, rfl⟩ := trodVars_none hV
  simp only [List.append_nil] at hz hlt hW0
  have hR : ∀ (b : Nat) (sp : Nat → Bool) (hd : Bool), DataW.TrodAll enc Tryz.prog W' b sp hd f.resultTypes.toList ((Value.bool true).resultList f.resultTypes.size) (s.fn H (ds ++ [])).results [] := fun b sp hd => by
    rw [List.append_nil, hres, hrt]
    exact trodAll_cons_mk (shut_bool Tryz.underlying4 _) trodAll_mk0
  have hA' : ∀ sp : Nat → Bool, (∀ x ∈ p, sp x.block = true) → DataW.TrodAll enc Tryz.prog W' 0 sp true f.params.toList args.toList (s.fn H (ds ++ [])).args p := fun sp hsp => by
    rw [List.append_nil, hargs]; exact stays hb hA hr hlt hsp
  have hVv : ∀ sp : Nat → Bool, DataW.TrodVars enc Tryz.prog W' sp s.vars (s.fn H (ds ++ [])).vars [] := fun sp => by
    rw [List.append_nil, hv, hvars]; rfl
  have hok : ∀ (j : Nat) (t : TypeId) (r : Value), f.resultTypes[j]? = some t → ((Value.bool true).resultList f.resultTypes.size)[j]? = some r → Value.okWide Tryz.prog W' .any 0 t r := ok_one hrt rfl (okWide_bool_mk Tryz.underlying4 _)
  refine ⟨ds, [], p, [], p, [], hW0, hR _ _ _, hA' _ (fun x hx => by simpa using hlt x hx), hVv _, World.keptBut_mono (fun x hx => ⟨hx, .inr (by simpa using hx)⟩) (hb.frame _), fun _ => ?_⟩
  refine ⟨hok, _, _, ([] ++ p) ++ [], ⟨[] ++ p, [], trodAll_append (hA' (fun _ => true) (fun _ _ => rfl)) (hR _ _ _), hVv _, rfl, ?_, fun h => by cases h⟩, ?_⟩
  · intro b off hp
    have hp' : MemPlace.cell b off ∈ p := by simpa using hp
    rw [hb.frozen (p := ⟨b, off, none⟩) (hlt _ hp')]
    exact hz b off hp'
  · intro x hx _
    simpa using hx
set_option maxRecDepth 100000
def laidL : List (String × DataW Unit) := [("math/bits.deBruijn32tab", Rows.laid_math_bits_deBruijn32tab), ("math/bits.deBruijn64tab", Rows.laid_math_bits_deBruijn64tab), ("internal/strconv.uint64pow10", Rows.laid_internal_strconv_uint64pow10)]
theorem door_met (os : Os) (args : Array Value) : laidMetH Tryz.prog laidL ((World.doorLaid Tryz.prog 400 os).forCall (fun _ _ => 0) ⟨#[], args, []⟩).memory :=
  laidMetH_of_parts3 (fuel := 8) (laidMet_of_run' 8 (by kernel_rfl) (by kernel_rfl)) (by kernel_rfl) (by kernel_rfl)
end Ip
end Go.Proofs.YthcbcdjkfefnlaaGreatDoor
namespace Go.Proofs.YthcbcdjkfefnlaaGreatDoor
open Go.Gv
open Go.RowKit
open Go.Sn hiding En keysP keysP_len stop_ok
open Go.Ps
open Iv Sx Ip
namespace Ip
section
variable {d r p1 p2 p3 t c : Nat}
theorem Zdv : OrgLe (WG d r p1 p2 p3 t c) := by
  refine ⟨by show 1 ≤ 140737488355328; omega, by show 2 ≤ 140737488355328; omega, by show 3 ≤ 140737488355328; omega, by show 1 ≤ 140737488355328; omega, Zfo (m := 16) (by omega) (by kernel_rfl), fun x hx => ?_, Zfo (m := 16) (by omega) (by kernel_rfl), Zfo (m := 16) (by omega) (by kernel_rfl), Zfo (m := 16) (by omega) (by kernel_rfl), Zfo (m := 16) (by omega) (by kernel_rfl)⟩
  have h : ((WG d r p1 p2 p3 t c).ss.all fun x => Nat.ble x.ps.length x.pc) = true := by kernel_rfl
  exact Nat.le_of_ble_eq_true (List.all_eq_true.1 h x hx)
theorem Zdw {w : World} {S : List Nat} (hd : OldSl w S (rowA (some d)) 1 3 (exDs.flatMap Dv.cells)) (hr : OldSl w S (rowA (some r)) 2 6 (exRs.flatMap Rk.cells)) (ht : OldSl w S (rowA (some t)) 3 5 ((exSs p1 p2 p3).flatMap St.cells)) (hc : OldSl w S (rowA (some c)) 1 6 (exC1.flatMap Cp.cells)) (h1 : OldSl w S (rowA (some p1)) 1 4 (exP1.flatMap Pt.cells)) (h2 : OldSl w S (rowA (some p2)) 1 4 (exP2.flatMap Pt.cells)) (h3 : OldSl w S (rowA (some p3)) 1 4 (exP3.flatMap Pt.cells)) : OrgIn (WG d r p1 p2 p3 t c) w S := by
  refine ⟨hd, hr, ht, hc, fun x hx => ?_⟩
  change x ∈ exSs p1 p2 p3 at hx
  unfold exSs at hx
  rcases List.mem_cons.1 hx with rfl | hx
  · exact h1
  rcases List.mem_cons.1 hx with rfl | hx
  · exact h2
  rcases List.mem_cons.1 hx with rfl | hx
  · exact h3
  · cases hx
theorem Zb0 : (Xt (WG d r p1 p2 p3 t c)).2 = 0 := by kernel_rfl
end
structure PsNew (s : Org) (q q2 : SS) (V2 : Ye) (c : Cl) : Prop where
  chk : (Xt s).2 = 0
  st : PSt (clS s c) q2 V2 2 [] []
  lk : q.Like q2
  nd : s.ds.length ≤ 6
  ns : s.ss.length ≤ 80
  nc : s.cs.length ≤ 24
theorem open_new {s : Org} {q : SS} {v : Value} {T : List HL} (h : OpenR s q (fun _ => none) 1 v T) :
    ((Xt s).2 ≠ 0 ∧ v = .tuple #[.pointer none, .int .i64 (Xt s).2] ∧ T = q.hl) ∨ ∃ (bp : Nat) (c : Cl) (q2 : SS) (V2 : Ye), v = .tuple #[.pointer (some ⟨bp, 0, none⟩), .int .i64 0] ∧ PsNew s q q2 V2 c ∧ T = psH s bp q2.bs c ++ q2.hl := by
  rcases h with ⟨h1, rfl, rfl⟩ | ⟨_, ⟨m, old, hv, _⟩, _⟩ | ⟨h1, bp, c, q2, V2, rfl, hq2, hlk, hV, rfl⟩
  · exact .inl ⟨h1, rfl, rfl⟩
  · cases hv
  · obtain ⟨hd, hs, hc⟩ := Zdu h1
    obtain ⟨_, rfl⟩ := hV.resolve_left (fun ⟨m, h, _⟩ => nomatch h)
    exact .inr ⟨bp, c, q2, _, rfl, ⟨h1, ⟨hq2, PR.start hd hs hc⟩, hlk, hd, hs, hc⟩, by rw [hlk.bs]⟩
theorem Zc8 (q : SS) {n : Nat} (hn : q.New n) (h4 : 4 ≤ n) (S : List Nat) (w0 : World) (hown : Own w0 S w0 q.hl) (s : Org) (hle : OrgLe s) (hS : OrgIn s w0 S) : Sp Tryz.prog 12 [.pointer (some ⟨q.bs, 0, none⟩), s.val] w0 S (fun v T => ((Xt s).2 ≠ 0 ∧ v = .tuple #[.pointer none, .int .i64 (Xt s).2] ∧ T = q.hl) ∨ ∃ (bp : Nat) (c : Cl) (q2 : SS) (V2 : Ye), v = .tuple #[.pointer (some ⟨bp, 0, none⟩), .int .i64 0] ∧ PsNew s q q2 V2 c ∧ T = psH s bp q2.bs c ++ q2.hl) := by
  have hcap : (fun _ => none : Ye) 0 = none → q.m.length < 10 * (q.f.b.length / 256 - 2) := fun _ => by rw [hn.m0, hn.len]; omega
  exact (Open_okP q _ 1 hn.ok S w0 hown s hle hS (by decide) (fun m h => nomatch h) hcap hn.left).mono fun v T h => open_new h
theorem PsNew.left {s : Org} {q q2 : SS} {V2 : Ye} {c : Cl} (h : PsNew s q q2 V2 c) {n : Nat} (hn : q.New n) : q2.f.left = -1 := h.lk.no hn.left
theorem PsNew.cap {s : Org} {q q2 : SS} {V2 : Ye} {c : Cl} (h : PsNew s q q2 V2 c) {n : Nat} (hn : q.New n) : q2.cap = 10 * (n - 2) := by
  rw [h.lk.cap]; unfold SS.cap; rw [hn.len]; congr 2; omega
section
variable {s : Org} {q : SS} {V : Ye} {n : Nat} {t : RS} {x : Pis} {ss cs : List Int} {v : Value} {T : List HL}
theorem set_done (h : PSt s q V n t.1 t.2) (hl : q.f.left = -1) (hR : SetR s q V n x ss cs v T) : Done s q (n + 1) (JW s q.cap t x ss cs).1 (JW s q.cap t x ss cs).2 v T := (set_conv h hR).resolve_right fun h => h.2.2.1 hl
end
end Ip
open Ip
namespace Ip
theorem Zi4 (l : List HL) : Sub [] l := ⟨[], by simp, rfl⟩
end Ip
theorem Zho (w0 : World) : Sp Tryz.prog 10 [] w0 [] (RV (.bool true)) := by
  refine ZB Tryz.func10 rfl Tryz.ntmps10 rfl (Own.refl _) ?_
  simp only [ZU]
  refine Zc <| Za <| gas rfl rfl <| gA <| Zc <| Za <| Zn (ZD rfl (vf := []) (vc := []) rfl rfl Tryz.call11 (fun w1 ho => Zli 4 (by decide) (by decide) w1) ?_)
  rintro _ _ ⟨q, rfl, hn, rfl⟩
  refine V9 [] q.hl [] <| gm rfl rfl <| gr rfl (Zp rfl rfl) <| gr rfl (Zp rfl rfl) <| gas rfl rfl <| gas rfl rfl <| gA <| Zc <| Za <| gm rfl rfl <| Zn (ZD rfl (vf := []) (vc := []) rfl rfl Tryz.call13 (fun w1 ho => Zdi w1) ?_)
  rintro _ _ ⟨xe, xd, xr, x1, x2, x3, xt, xc, rfl, rfl⟩
  refine Zn (Z6 [_, _, _, _, _, _, _, _] q.hl rfl rfl (vf := []) (vc := []) rfl rfl Tryz.call12 rfl (fun w how hc => Zc8 q hn (by decide) _ w hc (WG xd xr x1 x2 x3 xt xc) Zdv (Zdw (how.rowSlT (A := [_, _, _, _, _, _, _, _]) 7 rfl) (how.rowSlT (A := [_, _, _, _, _, _, _, _]) 6 rfl) (how.rowSlT (A := [_, _, _, _, _, _, _, _]) 2 rfl) (how.rowSlT (A := [_, _, _, _, _, _, _, _]) 1 rfl) (how.rowSlT (A := [_, _, _, _, _, _, _, _]) 5 rfl) (how.rowSlT (A := [_, _, _, _, _, _, _, _]) 4 rfl) (how.rowSlT (A := [_, _, _, _, _, _, _, _]) 3 rfl))) ?_)
  rintro _ _ (⟨hck, _⟩ | ⟨bp, c9, q2, V2, rfl, hp2, rfl⟩)
  · exact absurd Zb0 hck
  rw [← hp2.lk.bs, ← hp2.lk.bf]
  have hst2 := hp2.st
  have hlf2 := hp2.left hn
  have hcap2 : q2.cap = 20 := hp2.cap hn
  refine gm rfl rfl <| gr rfl (Zp rfl rfl) <| gr rfl (Zp rfl rfl) <| gas rfl rfl <| gas rfl rfl <| gA <| Zc <| Zc <| Za <| gm rfl rfl <| gr rfl (ZP rfl rfl) (Zv (fun h20 => ?_) (fun h20 => ?_))
  · exact absurd rfl h20
  refine gm rfl rfl <| Zl rfl rfl <| Zs rfl (Zi rfl) <| Zl rfl rfl <| Zs rfl (Y5 eg_36 Tryz.underlying36 rfl rfl) <| gr rfl (Zo rfl rfl) <| gA <| Zk rfl <| Zx <| Zf <| Zc <| Za <| gr rfl (ZQ rfl (fun _ => Vp _ _ _)) ?_
  refine Zn (ZO YB rfl rfl (fun b5 => ?_))
  refine Zn (ZA 0 YB rfl rfl rfl rfl rfl rfl (by rfl) ?_)
  refine gA <| Zc <| Za <| gm rfl rfl <| gr rfl (Zr Tryz.underlying23 rfl YB rfl (by exact ZH 0 (off := 0) (k := 3) rfl rfl) rfl) ?_
  refine Zn (ZX (sz := 1) rfl rfl (fun _ => Zc4 _ _) rfl rfl (fun b28 => ?_))
  refine Zn (ZX (sz := 1) rfl rfl (fun _ => Xh _) rfl rfl (fun b29 => ?_))
  refine gr rfl (ZQ rfl (fun _ => Zgm _ _ _ _ _ _)) ?_
  refine Zn (Z6 [_, _, _, _, _, _, _, _, _, _, _, _, _, _, _] q2.hl rfl rfl (vf := []) (vc := []) rfl rfl Tryz.call19 rfl (fun w how hc => Zi2 q2 V2 2 (.inl hst2.ok) _ w hc (by decide) (clS (WG xd xr x1 x2 x3 xt xc) c9) bp (Wl (A := [_, _, _, _, _, _, _, _, _, _, _, _, _, _, _]) how 11 13 14 rfl rfl rfl hp2.nd hp2.ns hp2.nc) ⟨1, -1, 1⟩ [0, 2] [0] _ _ _ _ (by decide) (by decide) (how.rowSlT (A := [_, _, _, _, _, _, _, _, _, _, _, _, _, _, _]) 1 rfl) (how.rowSlT (A := [_, _, _, _, _, _, _, _, _, _, _, _, _, _, _]) 0 rfl)) ?_)
  rintro v9 T9 hput
  obtain ⟨q3, V3, rfl, hlk3, hst3, rfl⟩ := set_done (t := ([], [])) hst2 hlf2 hput
  have hlf3 := hlk3.no hlf2
  have hcap3 := hlk3.cap.trans hcap2
  have e3 : JW (clS (WG xd xr x1 x2 x3 xt xc) c9) 20 ([], []) ⟨1, -1, 1⟩ [0, 2] [0] = (([⟨1, -1, 1⟩], [(⟨1, -1, 1⟩, ([0, 2], [0]))]), 0) := by kernel_rfl
  rw [hcap2, e3] at hst3
  rw [hcap2, e3]
  rw [← hlk3.bs]
  refine gas rfl rfl <| gA <| Zc <| Za <| gm rfl rfl <| gr rfl (Zr Tryz.underlying23 rfl YB rfl (by exact ZH 2 (off := 0) (k := 3) rfl rfl) rfl) ?_
  refine Zn (ZX (sz := 1) rfl rfl (fun _ => Xh _) rfl rfl (fun b35 => ?_))
  refine gr rfl (ZQ rfl (fun _ => bd_26_0 _ _ _)) ?_
  refine Zn (Z6 [_, _, _, _, _, _, _, _, _, _, _, _, _, _, _, _] q3.hl rfl rfl (vf := []) (vc := []) rfl rfl Tryz.call16 rfl (fun w how hc => Zcp q3 V3 3 (.inl hst3.ok) _ w hc (by decide) (clS (WG xd xr x1 x2 x3 xt xc) c9) bp (Wl (A := [_, _, _, _, _, _, _, _, _, _, _, _, _, _, _, _]) how 12 14 15 rfl rfl rfl hp2.nd hp2.ns hp2.nc) ⟨1, -1, 1⟩ (fun hx r hk => hst3.rg hx hk) [1] [] _ _ _ _ (by decide) (by decide) (how.rowSlT (A := [_, _, _, _, _, _, _, _, _, _, _, _, _, _, _, _]) 0 rfl) (XN _ _ _)) ?_)
  rintro _ _ ⟨e, p, r, c, r2, c2, rfl, rfl, hpi⟩
  obtain ⟨rfl, rfl⟩ := Zmr (t := ([⟨1, -1, 1⟩], [(⟨1, -1, 1⟩, ([0, 2], [0]))])) hst3 hpi
  have e4 : Zbz (clS (WG xd xr x1 x2 x3 xt xc) c9) ([⟨1, -1, 1⟩], [(⟨1, -1, 1⟩, ([0, 2], [0]))]) ⟨1, -1, 1⟩ [1] [] = (([0, 2], [0]), 0) := by kernel_rfl
  rw [e4]
  refine gm rfl rfl <| gr rfl (Zp rfl rfl) <| gr rfl (Zp rfl rfl) <| Zn (ZO ZZ rfl rfl (fun b7 => ?_))
  refine Zn (ZA 0 ZZ rfl rfl rfl rfl rfl rfl (by rfl) ?_)
  refine gas rfl rfl <| gA <| Zc <| Za <| gm rfl rfl <| gr rfl (Yr rfl rfl) (Zv (fun h41 => ?_) (fun h41 => ?_))
  · refine gm rfl rfl <| Zl rfl rfl <| Zs rfl (Zi rfl) <| Zl rfl rfl (Zs rfl (Yr rfl rfl) (Zv (fun h44 => ?_) (fun h44 => ?_)))
    · refine gr rfl (ZE rfl rfl) <| gm rfl rfl <| Zl rfl rfl (Zs rfl (Zr Tryz.underlying26 rfl ZZ rfl (by exact ZH 0 (off := 0) (k := 2) rfl rfl) rfl) ?_)
      refine Zl rfl rfl (ZX (sz := 1) rfl rfl (fun _ => Zc4 _ _) rfl rfl (fun b48 => ?_))
      refine Zl rfl rfl (ZX (sz := 1) rfl rfl (fun _ => Xh _) rfl rfl (fun b49 => ?_))
      refine Zl rfl rfl (Zs rfl (ZQ rfl (fun _ => Zgm _ _ _ _ _ _)) ?_)
      refine Zl rfl rfl (ZD rfl (vf := []) (vc := []) rfl rfl Tryz.call32 (fun w1 ho => SameN_ok ([0, 2], [0]) ([0, 2], [0]) (rowA r) (some ⟨b48, 0, none⟩) (rowA r2) (some ⟨b49, 0, none⟩) c 2 c2 1 (by decide) (by decide) w1 (ho.rowSl 19 rfl) (ho.rowSl 20 rfl) (ho.rowSl 1 rfl) (ho.rowSl 0 rfl)) ?_)
      rintro _ _ ⟨rfl, rfl⟩
      refine gr rfl (ZE rfl rfl) <| gas rfl rfl <| gA <| Zt <| Z0 (.inl rfl) Tryz.results10 rfl (Zi4 _) ?_
      exact ⟨rfl, rfl⟩
    exact absurd rfl h44
  exact absurd rfl h41
namespace Ip
theorem Zft (q : SS) : Sub (q.fl ++ (q.blk :: .obj q.bm (Xo HV q.m q.nb) :: q.T)) q.hl := ZJ (A := [_, _, _, _, _]) (B := [_, _, _, _, _]) (T := q.T) [2, 3, 4, 0, 1] 5 (by decide) (by decide) rfl rfl
theorem Znv (a b c d e : HL) (T : List HL) : Sub ([d, e, a, b, c] ++ T) ([a, b, c] ++ (d :: e :: T)) := ZJ (A := [d, e, a, b, c]) (B := [a, b, c, d, e]) (T := T) [3, 4, 0, 1, 2] 5 (by decide) (by decide) rfl rfl
theorem SS.flash {q : SS} {F : FuncId} {args : List Value} {w0 : World} {S : List Nat} {R : Value → List HL → Prop} (hown : Own w0 S w0 q.hl) (h : ∀ S', Own w0 S' w0 q.fl → Sp Tryz.prog F args w0 S' R) :
    Sp Tryz.prog F args w0 S (fun v L => ∃ L1, R v L1 ∧ L = L1 ++ (q.blk :: .obj q.bm (Xo HV q.m q.nb) :: q.T)) :=
  Sp.frame (l1 := q.fl) (l2 := q.blk :: .obj q.bm (Xo HV q.m q.nb) :: q.T) (hown.sub (Zft q)) fun ho => h _ ho
abbrev SS.withF (q : SS) (f : Fl) (rp : Option Nat) (cp : Nat) : SS := { q with f := f, rp := rp, cp := cp }
theorem q_fuse (q : SS) (hf : q.f.Ok) (S : List Nat) (w0 : World) (hown : Own w0 S w0 q.hl) (n : Int) (ps : List Nat) (a : Option Addr) (ca : Nat) (hn0 : n ≤ 9223372036854775807) (hps : OldSl w0 S a ps.length 1 (ps.map u8V)) (hpsl : ps.length ≤ 140737488355328) : Sp Tryz.prog 14 [.pointer (some ⟨q.bf, 0, none⟩), .int .i64 n, .slice a ps.length ca] w0 S (fun v L => ∃ (rp2 : Option Nat) (cp2 : Nat), v = .int .i64 (YC q.f n ps).2 ∧ L = (q.withF (YC q.f n ps).1 rp2 cp2).hl) := by
  have h0 : ∀ S', Own w0 S' w0 q.fl → (∀ b ∈ S', b ∈ S ∨ w0.heap.size ≤ b) → Sp Tryz.prog 14 [.pointer (some ⟨q.bf, 0, none⟩), .int .i64 n, .slice a ps.length ca] w0 S' _ := fun S' ho hS => Fuse_ok q.f hf q.bf q.rb q.cb q.rp q.cp S' w0 ho n ps a ca hn0 ⟨hps.len, hps.isSome, hps.cells, fun hm hb => by
    rcases hS _ hb with h | h
    · exact hps.out hm h
    · exact absurd (hps.lt hm (by decide)) (Nat.not_lt.2 h)⟩ hpsl
  refine (Sp.frame (l1 := q.fl) (l2 := q.blk :: .obj q.bm (Xo HV q.m q.nb) :: q.T) (hown.sub (Zft q)) fun ho => h0 _ ho fun b hb => ?_).monoS ?_
  · obtain ⟨y, hy, hyb⟩ := List.mem_filterMap.1 hb
    exact (hown.sub (Zft q)).place y (List.mem_append_left (bs := q.blk :: .obj q.bm (Xo HV q.m q.nb) :: q.T) hy) b hyb
  · rintro v L ⟨L1, ⟨rp2, cp2, rfl, rfl⟩, rfl⟩
    exact ⟨(q.withF (YC q.f n ps).1 rp2 cp2).hl, Znv _ _ _ _ _ q.T, rp2, cp2, rfl, rfl⟩
theorem q_prog (q : SS) (hf : q.f.Ok) (S : List Nat) (w0 : World) (hown : Own w0 S w0 q.hl) (at_ : Int) (u : Nat) (hv : u < 256) : Sp Tryz.prog 15 [.pointer (some ⟨q.bf, 0, none⟩), .int .i64 at_, .int .u8 u] w0 S (fun v L => v = .int .i64 (Yh q.f at_ u).2 ∧ L = (q.withF (Yh q.f at_ u).1 q.rp q.cp).hl) := by
  refine (SS.flash hown fun S' ho => Ze2 q.f hf q.bf q.rb q.cb q.rp q.cp S' w0 ho at_ u hv).monoS ?_
  rintro v L ⟨L1, ⟨rfl, rfl⟩, rfl⟩
  exact ⟨(q.withF (Yh q.f at_ u).1 q.rp q.cp).hl, Znv _ _ _ _ _ q.T, rfl, rfl⟩
def NonP (w : World) (p : Option Addr) : Prop := p = none ∨ ∃ b, p = some ⟨b, 0, none⟩ ∧ w.cell? ⟨b, 0, none⟩ = some (.bool false)
theorem NonP.at {w0 w : World} {l : List HL} {p : Option Addr} (h : NonP w0 p) (ho : Own w0 [] w l) : NonP w p := by
  rcases h with h | ⟨b, h, hc⟩
  · exact .inl h
  · exact .inr ⟨b, h, ho.cellOld hc (by simp)⟩
theorem V0 (p : Option Addr) (w0 : World) (hp : NonP w0 p) : Sp Tryz.prog 43 [.pointer p] w0 [] (RV (.bool true)) := by
  rcases hp with rfl | ⟨b, rfl, hc⟩
  · exact Zos w0
  · exact Jp b false w0 hc
theorem Zlj {s : Org} {q : SS} {V : Ye} {n : Nat} {x : Pis} {ss cs : List Int} {v : Value} {T : List HL} (hs : q.Stop) (h9 : q.err = 9) (hx : pnE s.ds.length x = 0) (hr : Xf s.ss.length s.cs.length ss cs = 0) (h : SetR s q V n x ss cs v T) : v = .int .i64 9 ∧ T = q.hl := by
  have hz : YX [pnE s.ds.length x, Xf s.ss.length s.cs.length ss cs, q.err] = 9 := by rw [hx, hr, h9]; rfl
  rcases h with ⟨_, rfl, rfl⟩ | ⟨h1, _⟩
  · exact ⟨by rw [hz], rfl⟩
  · rw [hz] at h1; cases h1
theorem Zfu {s : Org} {q : SS} {V : Ye} {n : Nat} {x : Pis} {v : Value} {T : List HL} (hs : q.Stop) (h9 : q.err = 9) (hx : pnE s.ds.length x = 0) (h : ClearR s q V n x v T) : v = .int .i64 9 ∧ T = q.hl := by
  have hz : YX [pnE s.ds.length x, q.err] = 9 := by rw [hx, h9]; rfl
  rcases h with ⟨_, rfl, rfl⟩ | ⟨h1, _⟩
  · exact ⟨by rw [hz], rfl⟩
  · rw [hz] at h1; cases h1
theorem Zhp {s : Org} {q : SS} {n : Nat} {frm to : Int} {t : RS} {v : Value} {T : List HL} (h9 : q.err = 9) (hr : 1 ≤ frm ∧ frm ≤ 8 ∧ 1 ≤ to ∧ to ≤ 8) (h : CopyR s q n frm to t v T) : v = .int .i64 9 ∧ T = q.hl := by
  rcases h with ⟨h1, _⟩ | ⟨_, ⟨_, rfl, rfl⟩ | ⟨h1, _⟩ | ⟨h1, _⟩⟩
  · omega
  · exact ⟨by rw [h9], rfl⟩
  · omega
  · omega
theorem Zfv {s : Org} {q : SS} {V : Ye} {n : Nat} {x : Pis} {ss cs : List Int} {e : Int} {p : Rg} (h9 : q.err = 9) (hx : pnE s.ds.length x = 0) (hr : Xf s.ss.length s.cs.length ss cs = 0) (h : Zi1 s q V n x ss cs e p) : e = 9 ∧ p = ([], []) := by
  have hz : YX [pnE s.ds.length x, Xf s.ss.length s.cs.length ss cs, q.err] = 9 := by rw [hx, hr, h9]; rfl
  rcases h with ⟨_, rfl, rfl⟩ | ⟨h1, _⟩
  · exact ⟨hz, rfl⟩
  · rw [hz] at h1; cases h1
theorem Zlk {s : Org} {q : SS} {t : RS} {ss cs : List Int} {e : Int} {l : List Pis} (h9 : q.err = 9) (hr : Xf s.ss.length s.cs.length ss cs = 0) (h : LitIs s q t ss cs e l) : e = 9 ∧ l = [] := by
  have hz : YX [Xf s.ss.length s.cs.length ss cs, q.err] = 9 := by rw [hr, h9]; rfl
  rcases h with ⟨_, rfl, rfl⟩ | ⟨h1, _⟩
  · exact ⟨hz, rfl⟩
  · rw [hz] at h1; cases h1
theorem Zo0 {q : SS} {V : Ye} {n : Nat} (h : q.Ok V n) (hn : n < 1000000) (rp : Option Nat) (cp : Nat) :
    (YC q.f 0 []).2 = 0 ∧ (YC q.f 0 []).1.Ok ∧ (Yh (YC q.f 0 []).1 0 0).2 = 9 ∧ (SS.withF q (Yh (YC q.f 0 []).1 0 0).1 rp cp).Stop ∧ (SS.withF q (Yh (YC q.f 0 []).1 0 0).1 rp cp).err = 9 := by
  have hfu := fuse_is h.st.dn (n := 0) (by decide) (ps := []) (by decide)
  have hok := fuse_okP h.st.ok (n := 0) (by decide) (ps := []) (by simp)
  rw [hfu] at hok ⊢
  have hlo := h.st.ok.lo
  have hpr := h.pr
  have hb : Yz { q.f with left := 0, picks := [] } 0 ({ q.f with left := 0, picks := [] } : Fl).b.length = 0 :=
    Iv.begins_ok (f := { q.f with left := 0, picks := [] }) h.st.dn (k := 0) (by show 0 < q.f.b.length; omega)
  have hfl : (flFails { q.f with left := 0, picks := [], pr := q.f.pr + 1 }).down = true := by
    unfold flFails; rw [if_pos rfl]
  have he : (Yh { q.f with left := 0, picks := [] } 0 0).2 = 9 ∧ (Yh { q.f with left := 0, picks := [] } 0 0).1.down = true := by
    unfold Yh
    rw [if_neg (by rw [hb]; decide)]
    unfold XC
    simp only
    rw [if_neg (by rw [hfl]; decide)]
    exact ⟨rfl, hfl⟩
  have hpo := (Zna hok (by show q.f.pr + 1 < _; omega) (u := 0) (by decide) 0).1
  have hrd : XO (Yh { q.f with left := 0, picks := [] } 0 0).1 q.id = 9 := by unfold XO; rw [if_pos he.2]
  exact ⟨rfl, hok, he.1, ⟨hpo, by show XO _ _ ≠ 0; rw [hrd]; decide⟩, hrd⟩
end Ip
open Ip
theorem Zfw (p : Option Addr) (w0 : World) (hp : NonP w0 p) (x : Pis) (a1 a2 : Option Addr) (n1 n2 c1 c2 : Nat) : Sp Tryz.prog 19 [.pointer p, Pis.val x, .agg #[.slice a1 n1 c1, .slice a2 n2 c2]] w0 [] (RV (.int .i64 1)) := by
  refine ZB Tryz.func19 rfl Tryz.ntmps19 rfl (Own.refl _) ?_
  simp only [ZU]
  refine Zc <| Za <| Zn (Z7 rfl rfl rfl (fun b4 => ?_))
  refine Zn (Z7 rfl rfl rfl (fun b5 => ?_))
  refine gas rfl rfl <| gA <| Zc <| Zc <| Za <| gm rfl rfl <| Zn (ZD rfl (vf := []) (vc := []) rfl rfl Tryz.call43 (fun w1 ho => V0 p w1 (hp.at ho)) ?_)
  rintro _ _ ⟨rfl, rfl⟩
  refine gA <| Zj rfl <| Zc <| Za <| gas rfl rfl <| gA <| Zt <| Zg <| ZC (.inl rfl) Tryz.results19 rfl [] (by decide) ?_
  exact ⟨rfl, rfl⟩
theorem Zb1 (p : Option Addr) (w0 : World) (hp : NonP w0 p) (x : Pis) : Sp Tryz.prog 20 [.pointer p, Pis.val x] w0 [] (RV (.int .i64 1)) := by
  refine ZB Tryz.func20 rfl Tryz.ntmps20 rfl (Own.refl _) ?_
  simp only [ZU]
  refine Zc <| Za <| Zn (Z7 rfl rfl rfl (fun b3 => ?_))
  refine gas rfl rfl <| gA <| Zc <| Zc <| Za <| gm rfl rfl <| Zn (ZD rfl (vf := []) (vc := []) rfl rfl Tryz.call43 (fun w1 ho => V0 p w1 (hp.at ho)) ?_)
  rintro _ _ ⟨rfl, rfl⟩
  refine gA <| Zj rfl <| Zc <| Za <| gas rfl rfl <| gA <| Zt <| Zg <| ZC (.inl rfl) Tryz.results20 rfl [] (by decide) ?_
  exact ⟨rfl, rfl⟩
theorem Zdx (p : Option Addr) (w0 : World) (hp : NonP w0 p) (a b : Int) : Sp Tryz.prog 21 [.pointer p, .int .i64 a, .int .i64 b] w0 [] (RV (.int .i64 1)) := by
  refine ZB Tryz.func21 rfl Tryz.ntmps21 rfl (Own.refl _) ?_
  simp only [ZU]
  refine Zc <| Za <| Zn (Z7 rfl rfl rfl (fun b3 => ?_))
  refine Zn (Z7 rfl rfl rfl (fun b5 => ?_))
  refine gas rfl rfl <| gA <| Zc <| ZI <| Zc <| Za <| gr rfl (Zh Tryz.underlying36 rfl rfl (by exact Zq 1 rfl rfl)) ?_
  refine Zn (ZD rfl (vf := []) (vc := []) rfl rfl Tryz.call43 (fun w1 ho => V0 p w1 (hp.at ho)) ?_)
  rintro _ _ ⟨rfl, rfl⟩
  refine gas rfl rfl <| gA <| Zj rfl <| Zc <| Za <| gas rfl rfl <| gA <| Zt <| Zy <| Zg <| ZC (.inl rfl) Tryz.results21 rfl [] (by decide) ?_
  exact ⟨rfl, rfl⟩
theorem Zdy (p : Option Addr) (w0 : World) (hp : NonP w0 p)  : Sp Tryz.prog 17 [.pointer p] w0 [] (RV (.tuple #[.slice none 0 0, .int .i64 1])) := by
  refine ZB Tryz.func17 rfl Tryz.ntmps17 rfl (Own.refl _) ?_
  simp only [ZU]
  refine Zc <| Za <| gas rfl rfl <| gas rfl rfl <| gA <| Zc <| Zc <| Za <| gm rfl rfl <| Zn (ZD rfl (vf := []) (vc := []) rfl rfl Tryz.call43 (fun w1 ho => V0 p w1 (hp.at ho)) ?_)
  rintro _ _ ⟨rfl, rfl⟩
  refine gA <| Zj rfl <| Zc <| Za <| gas rfl rfl <| gas rfl rfl <| gA <| Zt <| Zg <| YA (.inl rfl) Tryz.results17 rfl rfl [] (by decide) ?_
  exact ⟨rfl, rfl⟩
theorem Zi5 (p : Option Addr) (w0 : World) (hp : NonP w0 p) (a1 a2 : Option Addr) (n1 n2 c1 c2 : Nat) : Sp Tryz.prog 18 [.pointer p, .agg #[.slice a1 n1 c1, .slice a2 n2 c2]] w0 [] (RV (.tuple #[.slice none 0 0, .int .i64 1])) := by
  refine ZB Tryz.func18 rfl Tryz.ntmps18 rfl (Own.refl _) ?_
  simp only [ZU]
  refine Zc <| Za <| Zn (Z7 rfl rfl rfl (fun b2 => ?_))
  refine Zn (Z7 rfl rfl rfl (fun b3 => ?_))
  refine gas rfl rfl <| gas rfl rfl <| gA <| Zc <| Zc <| Za <| gr rfl (Zh Tryz.underlying36 rfl rfl (by exact Zq 1 rfl rfl)) ?_
  refine Zn (ZD rfl (vf := []) (vc := []) rfl rfl Tryz.call43 (fun w1 ho => V0 p w1 (hp.at ho)) ?_)
  rintro _ _ ⟨rfl, rfl⟩
  refine gA <| Zj rfl <| Zc <| Za <| gas rfl rfl <| gas rfl rfl <| gA <| Zt <| Zg <| YA (.inl rfl) Tryz.results18 rfl rfl [] (by decide) ?_
  exact ⟨rfl, rfl⟩
theorem Zb2 (p : Option Addr) (w0 : World) (hp : NonP w0 p) (x : Pis) (a1 a2 : Option Addr) (n1 n2 c1 c2 : Nat) : Sp Tryz.prog 16 [.pointer p, Pis.val x, .agg #[.slice a1 n1 c1, .slice a2 n2 c2]] w0 [] (RV (.tuple #[.agg #[.slice none 0 0, .slice none 0 0], .int .i64 1])) := by
  refine ZB Tryz.func16 rfl Tryz.ntmps16 rfl (Own.refl _) ?_
  simp only [ZU]
  refine Zc <| Za <| Zn (Z7 rfl rfl rfl (fun b4 => ?_))
  refine Zn (Z7 rfl rfl rfl (fun b5 => ?_))
  refine Zn (ZO ZZ rfl rfl (fun b6 => ?_))
  refine gas rfl rfl <| gA <| Zc <| Zc <| Za <| gm rfl rfl <| Zn (ZD rfl (vf := []) (vc := []) rfl rfl Tryz.call43 (fun w1 ho => V0 p w1 (hp.at ho)) ?_)
  rintro _ _ ⟨rfl, rfl⟩
  refine gA <| Zj rfl <| Zc <| Za <| gr rfl (ZQ rfl (fun _ => Zep)) ?_
  refine Zn (ZA 0 ZZ rfl rfl rfl rfl rfl rfl (by rfl) ?_)
  refine gas rfl rfl <| gA <| Zt <| Zg <| YH (.inl rfl) Tryz.results16 (YM Tryz.underlying26 rfl ZZ rfl (by rfl) (ZH 0 (off := 0) (k := 2) rfl rfl)) (Xd rfl) [] (by decide) ?_
  exact ⟨rfl, rfl⟩
theorem Zo1 (s : Org) (hle : OrgLe s) (hck : (Xt s).2 = 0) (w0 : World) (hS : OrgIn s w0 []) : Sp Tryz.prog 12 [.pointer none, s.val] w0 [] (RV (.tuple #[.pointer none, .int .i64 1])) := by
  refine ZB Tryz.func12 rfl Tryz.ntmps12 rfl (Own.refl _) ?_
  simp only [ZU]
  refine Zc <| Za <| Zn (Z7 rfl rfl rfl (fun b3 => ?_))
  refine gas rfl rfl <| gas rfl rfl <| gA <| Zc <| Zc <| Za <| gr rfl (Zr Tryz.underlying45 rfl VI rfl (by exact ZH 0 (off := 0) (k := 4) rfl rfl) rfl) ?_
  refine Zn (ZD rfl (vf := []) (vc := []) rfl rfl Tryz.call35 (fun w1 ho => Jg s hle w1 (hS.at ho)) ?_)
  rintro _ _ ⟨rfl, rfl⟩
  rw [Zch]
  refine gm rfl rfl <| gr rfl (Zp rfl rfl) <| gr rfl (Zp rfl rfl) <| Zn (ZO Xu rfl rfl (fun b6 => ?_))
  refine Zn (ZA 0 Xu rfl rfl rfl rfl rfl rfl (by rfl) ?_)
  refine gas rfl rfl <| gA <| Zc <| Za <| gm rfl rfl <| gr rfl (ZP rfl rfl) (Zv (fun h21 => ?_) (fun h21 => ?_))
  · exact absurd hck h21
  obtain ⟨hnd, hns, hnc⟩ := Zdu hck
  refine gA <| Zk rfl <| Zx <| Zf <| Zc <| Za <| gm rfl rfl <| gr rfl (Ja rfl (Zi0 _)) <| gr rfl (Zr Tryz.underlying45 rfl VI rfl (by exact ZH 1 (off := 0) (k := 4) rfl rfl) rfl) ?_
  refine Zn (ZD rfl (vf := []) (vc := []) rfl rfl Tryz.call36 (fun w1 ho => Zco s hle hnd hns hnc w1 (hS.at ho)) ?_)
  rintro _ _ ⟨c9, rfl, rfl⟩
  refine gr rfl (ZQ rfl (fun _ => JF _ _ _ _ _ _ _ _ _ _ _ _ _ _ _)) ?_
  refine Zn (Z7 rfl rfl rfl (fun b28 => ?_))
  refine gas rfl rfl <| gA <| Zc <| Zc <| Za <| gm rfl rfl <| gnc rfl rfl <| gr rfl (Zd rfl (X3 _)) <| gr rfl (Zh Tryz.underlying50 rfl rfl (by exact Zq 0 rfl rfl)) ?_
  refine Zn <| Xg (rv := (.pointer none)) (F := 181) rfl rfl (Zfp _) Tryz.call181 <| (ZD rfl (vf := []) (vc := []) rfl rfl Tryz.call181 (fun w how => Keys_no none w (.inl rfl)) ?_)
  rintro _ _ ⟨rfl, rfl⟩
  refine gm rfl rfl <| gr rfl (Zp rfl rfl) <| gr rfl (Zp rfl rfl) <| gas rfl rfl <| gas rfl rfl <| gA <| Zc <| Za <| gm rfl rfl <| gr rfl (ZP rfl rfl) (Zv (fun h38 => ?_) (fun h38 => ?_))
  · refine gA <| Zj rfl <| Zc <| Za <| gm rfl rfl <| gas rfl rfl <| gas rfl rfl <| gA <| Zt <| Zg <| YA (.inl rfl) Tryz.results12 rfl rfl [] (by decide) ?_
    exact ⟨rfl, rfl⟩
  exact absurd (by decide) h38
theorem Zms (q : SS) (hq : q.Stop) (S : List Nat) (w0 : World) (hown : Own w0 S w0 q.hl) (s : Org) (hle : OrgLe s) (hck : (Xt s).2 = 0) (hS : OrgIn s w0 S) : Sp Tryz.prog 12 [.pointer (some ⟨q.bs, 0, none⟩), s.val] w0 S (fun v L => v = .tuple #[.pointer none, .int .i64 q.err] ∧ L = q.hl) := by
  refine ZB Tryz.func12 rfl Tryz.ntmps12 rfl hown ?_
  simp only [ZU]
  refine Zc <| Za <| Zn (Z7 rfl rfl rfl (fun b3 => ?_))
  refine gas rfl rfl <| gas rfl rfl <| gA <| Zc <| Zc <| Za <| gr rfl (Zr Tryz.underlying45 rfl VI rfl (by exact ZH 0 (off := 0) (k := 4) rfl rfl) rfl) ?_
  refine Zn (ZD rfl (vf := []) (vc := []) rfl rfl Tryz.call35 (fun w1 ho => Jg s hle w1 (hS.at ho)) ?_)
  rintro _ _ ⟨rfl, rfl⟩
  rw [Zch]
  refine gm rfl rfl <| gr rfl (Zp rfl rfl) <| gr rfl (Zp rfl rfl) <| Zn (ZO Xu rfl rfl (fun b6 => ?_))
  refine Zn (ZA 0 Xu rfl rfl rfl rfl rfl rfl (by rfl) ?_)
  refine gas rfl rfl <| gA <| Zc <| Za <| gm rfl rfl <| gr rfl (ZP rfl rfl) (Zv (fun h21 => ?_) (fun h21 => ?_))
  · exact absurd hck h21
  obtain ⟨hnd, hns, hnc⟩ := Zdu hck
  refine gA <| Zk rfl <| Zx <| Zf <| Zc <| Za <| gm rfl rfl <| gr rfl (Ja rfl (Zi0 _)) <| gr rfl (Zr Tryz.underlying45 rfl VI rfl (by exact ZH 1 (off := 0) (k := 4) rfl rfl) rfl) ?_
  refine Zn (ZD rfl (vf := []) (vc := []) rfl rfl Tryz.call36 (fun w1 ho => Zco s hle hnd hns hnc w1 (hS.at ho)) ?_)
  rintro _ _ ⟨c9, rfl, rfl⟩
  refine gr rfl (ZQ rfl (fun _ => JF _ _ _ _ _ _ _ _ _ _ _ _ _ _ _)) ?_
  refine Zn (Z7 rfl rfl rfl (fun b28 => ?_))
  refine gas rfl rfl <| gA <| Zc <| Zc <| Za <| gm rfl rfl <| gnc rfl rfl <| gr rfl (Zd rfl (X3 _)) <| gr rfl (Zh Tryz.underlying50 rfl rfl (by exact Zq 0 rfl rfl)) ?_
  refine Zn <| Xg (rv := (.pointer (some ⟨q.bs, 0, none⟩))) (F := 181) rfl rfl (Zfp _) Tryz.call181 <| (ZD rfl (vf := []) (vc := []) rfl rfl Tryz.call181 (fun w how => Zhc q.f hq.ok q.bs q.bf q.rb q.cb q.rp q.cp q.id q.bm q.num _ w (how.blkCells 6 rfl) (how.blkCells 8 rfl) hq.no) ?_)
  rintro _ _ ⟨rfl, rfl⟩
  refine gm rfl rfl <| gr rfl (Zp rfl rfl) <| gr rfl (Zp rfl rfl) <| gas rfl rfl <| gas rfl rfl <| gA <| Zc <| Za <| gm rfl rfl <| gr rfl (ZP rfl rfl) (Zv (fun h38 => ?_) (fun h38 => ?_))
  · refine gA <| Zj rfl <| Zc <| Za <| gm rfl rfl <| gas rfl rfl <| gas rfl rfl <| gA <| Zt <| Zg <| Y1 (.inl rfl) Tryz.results12 rfl rfl (ZJ (A := []) (B := [_, _, _, _, _, _]) (T := q.hl) [] 6 (by decide) (by decide) rfl rfl) ?_
    exact ⟨rfl, rfl⟩
  exact absurd hq.no h38
end Go.Proofs.YthcbcdjkfefnlaaGreatDoor
