import Derived.Test.YthcbcdjkfefnlaaGreatDoorW04
import Derived.Test.YthcbcdjkfefnlaaGreatDoorW01
import Derived.Test.YthcbcdjkfefnlaaGreatDoorRows
import Derived.LaidMore
import Derived.MakeChecks
import Derived.Stop.Joined
import Derived.LaidHandle
import Derived.Test.YthcbcdjkfefnlaaGreatDoorW00
/- A part of the proof: walks of the program. -/
set_option autoImplicit false
set_option linter.unusedSimpArgs false
set_option linter.unusedVariables false
set_option linter.unnecessarySimpa false
set_option maxRecDepth 100000
set_option maxHeartbeats 8000000
namespace Go.Proofs.YthcbcdjkfefnlaaGreatDoor
open Go.Gv
open Go.RowKit
open Go.Sn hiding En keysP keysP_len stop_ok
open Go.Ps
open Iv Sx Ip
theorem ty_37 : TyF Tryz.prog 37 (.int .i64 0) 1 8 := TyF.mk' (by kernel_rfl)
namespace Ip
theorem Xc (l : List Nat) : (Ym l).map Xd = l.map natV := by unfold Ym; rw [List.map_map]; rfl
theorem arr3 (a b c : Int) {k : Nat} (h : k < 3) : (#[.int .i64 a, .int .i64 b, .int .i64 c] : Array Value)[k]? = some (.int .i64 ([a, b, c].getD k 0)) := by
  rcases k with _ | _ | _ | k
  · rfl
  · rfl
  · rfl
  · omega
theorem arr2 (a b : Int) {k : Nat} (h : k < 2) : (#[.int .i64 a, .int .i64 b] : Array Value)[k]? = some (.int .i64 ([a, b].getD k 0)) := by
  rcases k with _ | _ | k
  · rfl
  · rfl
  · omega
def XC : List Int → Int
  | [] => 0
  | e :: l => if e ≠ 0 then e else XC l
theorem Zbh : ∀ {l : List Int} {k : Nat}, (∀ j, j < k → l.getD j 0 = 0) → l.getD k 0 ≠ 0 → XC l = l.getD k 0
  | [], k, _, h => by simp at h
  | e :: l, 0, _, h => by
    have h : e ≠ 0 := h
    show (if e ≠ 0 then e else XC l) = e
    rw [if_pos h]
  | e :: l, k + 1, h0, h => by
    have h1 : e = 0 := h0 0 (Nat.succ_pos k)
    show (if e ≠ 0 then e else XC l) = l.getD k 0
    rw [if_neg (by omega)]
    exact Zbh (fun j hj => h0 (j + 1) (by omega)) h
theorem Jj : ∀ {l : List Int}, (∀ j, j < l.length → l.getD j 0 = 0) → XC l = 0
  | [], _ => rfl
  | e :: l, h => by
    have h1 : e = 0 := h 0 (by simp)
    show (if e ≠ 0 then e else XC l) = 0
    rw [if_neg (by omega)]
    exact Jj fun j hj => h (j + 1) (by simp; omega)
theorem any_of {q : SS} {V : Yl} {n : Nat} (h : q.Ok V n ∨ q.Stop) : (∃ V n, q.Ok V n) ∨ q.Stop := h.imp (fun h => ⟨V, n, h⟩) id
theorem pack_ok2 (r : Rg) (ns nc : Nat) (hr : RgOk ns nc r) (hns : ns ≤ 80) (hnc : nc ≤ 24) (a1 a2 : Option Addr) (c1 c2 : Nat) (w0 : World) (h1 : OldSl w0 [] a1 r.1.length 1 (r.1.map natV)) (h2 : OldSl w0 [] a2 r.2.length 1 (r.2.map natV)) : Sp Tryz.prog 55 [.agg #[.slice a1 r.1.length c1, .slice a2 r.2.length c2]] w0 [] (fun v L => ∃ b, v = .slice (rowA (some b)) (packR r.1 r.2).length 14 ∧ L = [.row 5 1 (some b) (packR r.1 r.2).length 14 ((packR r.1 r.2).map u8V)]) := by
  refine (pack_okP r.1 r.2 a1 a2 c1 c2 (fun i hi => Nat.lt_of_lt_of_le (hr.sn i hi) hns) (fun i hi => Nat.lt_of_lt_of_le (hr.cn i hi) hnc) (Xi hr hns) (Xj hr hnc) w0 h1 h2).mono ?_
  rintro v L ⟨b, rfl, rfl⟩
  exact ⟨b, by rw [JG], by rw [JG]⟩
def SetR (s : Org) (q : SS) (V : Yl) (n : Nat) (x : Pis) (ss cs : List Int) : Value → List HL → Prop := fun v L =>
  (XC [pnE s.ds.length x, Y8 s.ss.length s.cs.length ss cs, q.err] ≠ 0 ∧ v = .int .i64 (XC [pnE s.ds.length x, Y8 s.ss.length s.cs.length ss cs, q.err]) ∧ L = q.hl) ∨
  (XC [pnE s.ds.length x, Y8 s.ss.length s.cs.length ss cs, q.err] = 0 ∧ q.Ok V n ∧ pnE s.ds.length x = 0 ∧ ∃ r : Rg, ss = Ym r.1 ∧ cs = Ym r.2 ∧ RgOk s.ss.length s.cs.length r ∧ PutR q V n (keyN x) (packR (YG s x r).1 (YG s x r).2) v L)
def Zn9 (s : Org) (q : SS) (V : Yl) (n : Nat) (x : Pis) (ss cs : List Int) (e : Int) (p : Rg) : Prop :=
  (XC [pnE s.ds.length x, Y8 s.ss.length s.cs.length ss cs, q.err] ≠ 0 ∧ e = XC [pnE s.ds.length x, Y8 s.ss.length s.cs.length ss cs, q.err] ∧ p = ([], [])) ∨
  (XC [pnE s.ds.length x, Y8 s.ss.length s.cs.length ss cs, q.err] = 0 ∧ q.Ok V n ∧ pnE s.ds.length x = 0 ∧ ∃ r : Rg, ss = Ym r.1 ∧ cs = Ym r.2 ∧ RgOk s.ss.length s.cs.length r ∧ ((Wl V x = none ∧ e = 4 ∧ p = ([], [])) ∨ ∃ k, Wl V x = some k ∧ e = 0 ∧ p = YK s x k r))
def PressR (s : Org) (q : SS) (V : Yl) (n : Nat) (x : Pis) (ss cs : List Int) : Value → List HL → Prop := fun v L =>
  ∃ (e : Int) (p : Rg) (r : Option Nat) (c : Nat) (r2 : Option Nat) (c2 : Nat), v = .tuple #[.agg #[.slice (rowA r) p.1.length c, .slice (rowA r2) p.2.length c2], .int .i64 e] ∧ L = .row 3 1 r p.1.length c (p.1.map natV) :: .row 3 1 r2 p.2.length c2 (p.2.map natV) :: q.hl ∧ Zn9 s q V n x ss cs e p
end Ip
open Ip
theorem Zoa (q : SS) (V : Yl) (n : Nat) (hq : q.Ok V n ∨ q.Stop) (S : List Nat) (w0 : World) (hown : Own w0 S w0 q.hl) (hn : n < 1000000) (s : Org) (bp : Nat) (hP : PsIn s bp q.bs w0 S) (x : Pis) (ss cs : List Int) (a1 a2 : Option Addr) (c1 c2 : Nat) (hl1 : ss.length ≤ 140737488355328) (hl2 : cs.length ≤ 140737488355328) (h1 : OldSl w0 S a1 ss.length 1 (ss.map Xd)) (h2 : OldSl w0 S a2 cs.length 1 (cs.map Xd)) : Sp Tryz.prog 19 [.pointer (some ⟨bp, 0, none⟩), Pis.val x, .agg #[.slice a1 ss.length c1, .slice a2 cs.length c2]] w0 S (SetR s q V n x ss cs) := by
  have hp := hP.p
  have hns := hP.ns
  have hnc := hP.nc
  refine ZC Tryz.func19 rfl Tryz.ntmps19 rfl hown ?_
  simp only [ZS]
  refine Zb <| Za <| Zs (Yb rfl rfl rfl (fun b4 => ?_))
  refine Zs (Yb rfl rfl rfl (fun b5 => ?_))
  refine gas rfl rfl <| gA <| Zb <| Zb <| Za <| gm rfl rfl <| Zs (ZF rfl (vf := []) (vc := []) rfl rfl Tryz.call43 (fun w1 ho => Zjj bp true w1 (by have h9 := (hP.at ho).p 0 _ rfl; exact h9)) ?_)
  rintro _ _ ⟨rfl, rfl⟩
  refine gA <| Zn rfl <| Zu <| Zf <| Zb <| Zb <| Zcb [_, _] q.hl [0, 1] true 9 rfl rfl <| Zd 0 rfl rfl (Yx 0 rfl) (Zh (Zq rfl)) ?_
  refine Zd 1 rfl rfl (Yx 0 rfl) (Zh (Zv Tryz.underlying23 rfl YT rfl (by exact ZG 1 (off := 0) (k := 3) rfl rfl) rfl)) ?_
  refine Zd 2 rfl rfl (Yx 0 rfl) (YR (vf := []) (vc := []) rfl rfl Tryz.call44 (fun w1 ho => Zh3 s bp q.bs w1 (hP.at ho) x) (by rintro _ _ ⟨h, _⟩; exact h)) ?_
  refine Zd 3 rfl rfl (Yx 0 rfl) (Zh (Zq rfl)) ?_
  refine Zd 4 rfl rfl (Yx 0 rfl) (Zh (Zv Tryz.underlying26 rfl Z6 rfl (by exact ZG 0 (off := 0) (k := 2) rfl rfl) rfl)) ?_
  refine Zd 5 rfl rfl (Yx 0 rfl) (YR (vf := []) (vc := []) rfl rfl Tryz.call45 (fun w1 ho => Vs s bp q.bs w1 (hP.at ho) ss cs a1 a2 c1 c2 hl1 hl2 (h1.at ho) (h2.at ho)) (by rintro _ _ ⟨h, _⟩; exact h)) ?_
  refine Zd 6 rfl rfl (Yx 0 rfl) (Zh (Zq rfl)) ?_
  refine Zd 9 rfl rfl (Yx 0 rfl) (Zh (Zq rfl)) ?_
  refine ZL 7 rfl (.inr (Yx 0 rfl)) (Yt [_, _] q.hl rfl rfl (vf := []) (vc := []) rfl rfl Tryz.call46 rfl (fun w how hc => Zm7 q (any_of hq) _ w hc s bp (hP.out (A := [_, _]) how)) ?_)
  rintro _ _ ⟨rfl, rfl⟩
  refine Zd 8 rfl rfl (Yx 0 rfl) (Zh (ZO rfl (fun _ => Zcm _ _ _))) ?_
  refine ZR (.inr (Yx 0 rfl)) ?_
  refine Zf <| ZD <| ZY (ι := Nat) [(0, _), (4, _), (5, _), (21, _)] (_ :: _ :: q.hl) (fun k => k ≤ 3 ∧ ∀ j, j < k → [pnE s.ds.length x, Y8 s.ss.length s.cs.length ss cs, q.err].getD j 0 = 0) (fun k Fr0 => ((22, natV k) :: Fr0)) (fun k Fr0 => Fr0) (fun k => 3 - k) 0 (⟨Nat.zero_le _, fun j h => absurd h (Nat.not_lt_zero j)⟩) ⟨rfl, rfl, rfl, rfl, rfl, trivial⟩ (Yx 0 rfl) ?_
  rintro k ⟨hk, hall⟩
  refine Zb <| Za <| gr rfl (Z1 rfl rfl) (Zx (fun hlt => ?_) (fun hlt => ?_))
  · refine gA <| Zb <| Zl rfl <| Zu <| Zf <| Zb <| ZD <| Zb <| Za <| gr rfl (JS Tryz.underlying119 Tryz.underlying37 ty_37 rfl rfl (by omega) (arr3 _ _ _ (by omega))) ?_
    refine gas rfl rfl <| gA <| Zb <| Za <| gm rfl rfl <| gr rfl (ZV rfl rfl) (Zx (fun hne => ?_) (fun hne => ?_))
    · refine gA <| Zl rfl <| Zb <| Za <| gm rfl rfl <| gas rfl rfl <| gA <| Zr <| Zy <| Zg <| Zg <| Zy <| Zg <| Z7 (.inl rfl) Tryz.results19 rfl (ZU (A := []) (B := [_, _]) (T := q.hl) [] 2 (by decide) (by decide) rfl rfl) ?_
      have hz := Zbh hall hne
      exact .inl ⟨by rw [hz]; exact hne, by rw [hz], rfl⟩
    refine gA <| Zn rfl <| Zu <| ZI <| Zf <| Za <| gr rfl (by exact ZK (b := 1) rfl rfl (by omega)) ?_
    refine gm rfl rfl <| ZM <| Zf ?_
    exact ZT (k + 1) ⟨⟨by omega, fun j hj => by
      rcases Nat.lt_or_eq_of_le (Nat.le_of_lt_succ hj) with h | rfl
      · exact hall j h
      · omega⟩, by omega⟩ ⟨rfl, rfl, rfl, rfl, rfl, trivial⟩ (Yx 0 rfl)
  refine gA <| Zb <| Zn rfl <| Z2 <| Zt <| Zt <| ZE <| Zf <| Zb ?_
  have hz := Jj (l := [pnE s.ds.length x, Y8 s.ss.length s.cs.length ss cs, q.err]) (fun j hj => hall j (by simp at hj; omega))
  have hx0 : pnE s.ds.length x = 0 := hall 0 (by omega)
  have hr0 : Y8 s.ss.length s.cs.length ss cs = 0 := hall 1 (by omega)
  have hq0 : q.err = 0 := hall 2 (by omega)
  have hqo : q.Ok V n := hq.resolve_right (fun h => h.no hq0)
  obtain ⟨r, rfl, rfl, hr⟩ := Zdt hr0
  rw [Z9] at h1 h2
  rw [Xc] at h1 h2
  rw [Z9, Z9]
  have hkN : kyP x = ((keyN x : Nat) : Int) := (XV hP.nd hx0).2.2.symm
  have hk9 := XV hP.nd hx0
  have hrl1 := Xi hr hns
  have hrl2 := Xj hr hnc
  have hwo := Zby (s := s) x hr
  refine Za <| gm rfl rfl <| gr rfl (Zv Tryz.underlying23 rfl YT rfl (by exact ZG 1 (off := 0) (k := 3) rfl rfl) rfl) ?_
  refine gr rfl (Zv Tryz.underlying26 rfl Z6 rfl (by exact ZG 0 (off := 0) (k := 2) rfl rfl) rfl) ?_
  refine Zs (ZF rfl (vf := []) (vc := []) rfl rfl Tryz.call53 (fun w1 ho => Zdv s bp q.bs w1 (hP.at ho) x r.1 r.2 a1 a2 c1 c2 hr.sn hr.cn hrl1 hrl2 (h1.at ho) (h2.at ho)) ?_)
  rintro _ _ ⟨r1, rd1, r3, rd3, r2, rd2, r4, rd4, rfl, rfl⟩
  refine gm rfl rfl <| gr rfl (ZA rfl rfl) <| gr rfl (ZA rfl rfl) <| Zs (ZP Z6 rfl rfl (fun b9 => ?_))
  refine Zs (ZP Z6 rfl rfl (fun b10 => ?_))
  refine Zs (Zz 1 Z6 rfl rfl rfl rfl rfl rfl (by rfl) ?_)
  refine Zs (Zz 0 Z6 rfl rfl rfl rfl rfl rfl (by rfl) ?_)
  refine gA <| Zb <| ZQ [0, 1, 2, 3, 4, 5, 6, 7] true 11 rfl <| Zd 0 rfl rfl ⟨[0, 1, 2, 3, 4, 5, 6, 7], by decide, rfl⟩ (Zh (Zq rfl)) ?_
  refine Zd 1 rfl rfl ⟨[0, 1, 2, 3, 4, 5, 6, 7], by decide, rfl⟩ (Zh (ZN rfl)) ?_
  refine Zd 2 rfl rfl ⟨[0, 1, 2, 3, 4, 5, 6, 7], by decide, rfl⟩ (Zh (Zc rfl (JT _))) ?_
  refine Zd 3 rfl rfl ⟨[0, 1, 2, 3, 4, 5, 6, 7], by decide, rfl⟩ (Zh (Zj Tryz.underlying50 rfl rfl (Yp hp hP.o (j := 1) rfl))) ?_
  refine Zd 4 rfl rfl ⟨[0, 1, 2, 3, 4, 5, 6, 7], by decide, rfl⟩ (Zh (Zv Tryz.underlying23 rfl YT rfl (by exact ZG 7 (off := 0) (k := 3) rfl rfl) rfl)) ?_
  refine Zd 5 rfl rfl ⟨[0, 1, 2, 3, 4, 5, 6, 7], by decide, rfl⟩ (YR (vf := []) (vc := []) rfl rfl Tryz.call54 (fun w1 ho => key_ok hP.nd x hx0 w1) (by rintro _ _ ⟨h, _⟩; exact h)) ?_
  rw [hkN]
  refine Zd 6 rfl rfl ⟨[0, 1, 2, 3, 4, 5, 6, 7], by decide, rfl⟩ (Zh (Zv Tryz.underlying26 rfl Z6 rfl (by exact ZG 1 (off := 0) (k := 2) rfl rfl) rfl)) ?_
  refine Zd 8 rfl rfl ⟨[0, 1, 2, 3, 4, 5, 6, 7], by decide, rfl⟩ (Zh (Zc2 rfl)) ?_
  refine Zd 9 rfl rfl ⟨[0, 1, 2, 3, 4, 5, 6, 7], by decide, rfl⟩ (Zh (Zq rfl)) ?_
  refine ZL 7 rfl (.inr ⟨[0, 1, 2, 3, 4, 5, 6, 7], by decide, rfl⟩) (ZF rfl (vf := []) (vc := []) rfl rfl Tryz.call55 (fun w1 ho => pack_ok2 (YG s x r) _ _ hwo hns hnc _ _ _ _ w1 (ho.rowSl 2 rfl) (ho.rowSl 3 rfl)) ?_)
  rintro _ _ ⟨b9, rfl, rfl⟩
  refine ZL 10 rfl (.inr ⟨[1, 2, 3, 4, 5, 6, 7, 8], by decide, rfl⟩) (W3 (rv := (.pointer (some ⟨q.bs, 0, none⟩))) (F := 182) rfl rfl (m_put _) Tryz.call182 ?_)
  refine (Yt [_, _, _, _, _, _, _, _, _] q.hl rfl rfl (vf := []) (vc := []) rfl rfl Tryz.call182 rfl (fun w how hc => q_put q V n hqo _ w hc hn (keyN x) (by omega) (packR (YG s x r).1 (YG s x r).2) (Zlh _ _) (by rw [JG]; decide) _ _ (how.rowSlT (A := [_, _, _, _, _, _, _, _, _]) 0 rfl)) ?_)
  rintro v9 T9 hput
  refine Zd 11 rfl rfl ⟨[1, 2, 3, 4, 5, 6, 7, 8], by decide, rfl⟩ (Zh (ZX rfl)) ?_
  refine ZR (.inr ⟨[1, 2, 3, 4, 5, 6, 7, 8], by decide, rfl⟩) ?_
  refine Zf <| Zr <| Z7 (.inl rfl) Tryz.results19 rfl (ZU (A := []) (B := [_, _, _, _, _, _, _, _, _]) (T := T9) [] 9 (by decide) (by decide) rfl rfl) ?_
  exact .inr ⟨hz, hqo, hx0, r, rfl, rfl, hr, hput⟩
theorem Zh8 (q : SS) (V : Yl) (n : Nat) (hq : q.Ok V n ∨ q.Stop) (S : List Nat) (w0 : World) (hown : Own w0 S w0 q.hl) (hn : n < 1000000) (s : Org) (bp : Nat) (hP : PsIn s bp q.bs w0 S) (x : Pis) (hkv : pnE s.ds.length x = 0 → ∀ r, Wl V x = some r → RgOk s.ss.length s.cs.length r) (ss cs : List Int) (a1 a2 : Option Addr) (c1 c2 : Nat) (hl1 : ss.length ≤ 140737488355328) (hl2 : cs.length ≤ 140737488355328) (h1 : OldSl w0 S a1 ss.length 1 (ss.map Xd)) (h2 : OldSl w0 S a2 cs.length 1 (cs.map Xd)) : Sp Tryz.prog 16 [.pointer (some ⟨bp, 0, none⟩), Pis.val x, .agg #[.slice a1 ss.length c1, .slice a2 cs.length c2]] w0 S (PressR s q V n x ss cs) := by
  have hp := hP.p
  have hns := hP.ns
  have hnc := hP.nc
  refine ZC Tryz.func16 rfl Tryz.ntmps16 rfl hown ?_
  simp only [ZS]
  refine Zb <| Za <| Zs (Yb rfl rfl rfl (fun b4 => ?_))
  refine Zs (Yb rfl rfl rfl (fun b5 => ?_))
  refine Zs (ZP Z6 rfl rfl (fun b6 => ?_))
  refine gas rfl rfl <| gA <| Zb <| Zb <| Za <| gm rfl rfl <| Zs (ZF rfl (vf := []) (vc := []) rfl rfl Tryz.call43 (fun w1 ho => Zjj bp true w1 (by have h9 := (hP.at ho).p 0 _ rfl; exact h9)) ?_)
  rintro _ _ ⟨rfl, rfl⟩
  refine gA <| Zn rfl <| Zu <| Zf <| Zb <| Zb <| Zcb [_, _, _] q.hl [0, 1, 2] true 9 rfl rfl <| Zd 0 rfl rfl (Yx 0 rfl) (Zh (Zq rfl)) ?_
  refine Zd 1 rfl rfl (Yx 0 rfl) (Zh (Zv Tryz.underlying23 rfl YT rfl (by exact ZG 2 (off := 0) (k := 3) rfl rfl) rfl)) ?_
  refine Zd 2 rfl rfl (Yx 0 rfl) (YR (vf := []) (vc := []) rfl rfl Tryz.call44 (fun w1 ho => Zh3 s bp q.bs w1 (hP.at ho) x) (by rintro _ _ ⟨h, _⟩; exact h)) ?_
  refine Zd 3 rfl rfl (Yx 0 rfl) (Zh (Zq rfl)) ?_
  refine Zd 4 rfl rfl (Yx 0 rfl) (Zh (Zv Tryz.underlying26 rfl Z6 rfl (by exact ZG 1 (off := 0) (k := 2) rfl rfl) rfl)) ?_
  refine Zd 5 rfl rfl (Yx 0 rfl) (YR (vf := []) (vc := []) rfl rfl Tryz.call45 (fun w1 ho => Vs s bp q.bs w1 (hP.at ho) ss cs a1 a2 c1 c2 hl1 hl2 (h1.at ho) (h2.at ho)) (by rintro _ _ ⟨h, _⟩; exact h)) ?_
  refine Zd 6 rfl rfl (Yx 0 rfl) (Zh (Zq rfl)) ?_
  refine Zd 9 rfl rfl (Yx 0 rfl) (Zh (Zq rfl)) ?_
  refine ZL 7 rfl (.inr (Yx 0 rfl)) (Yt [_, _, _] q.hl rfl rfl (vf := []) (vc := []) rfl rfl Tryz.call46 rfl (fun w how hc => Zm7 q (any_of hq) _ w hc s bp (hP.out (A := [_, _, _]) how)) ?_)
  rintro _ _ ⟨rfl, rfl⟩
  refine Zd 8 rfl rfl (Yx 0 rfl) (Zh (ZO rfl (fun _ => Zcm _ _ _))) ?_
  refine ZR (.inr (Yx 0 rfl)) ?_
  refine Zf <| ZD <| ZY (ι := Nat) [(0, _), (4, _), (5, _), (6, _), (23, _)] (_ :: _ :: _ :: q.hl) (fun k => k ≤ 3 ∧ ∀ j, j < k → [pnE s.ds.length x, Y8 s.ss.length s.cs.length ss cs, q.err].getD j 0 = 0) (fun k Fr0 => ((24, natV k) :: Fr0)) (fun k Fr0 => Fr0) (fun k => 3 - k) 0 (⟨Nat.zero_le _, fun j h => absurd h (Nat.not_lt_zero j)⟩) ⟨rfl, rfl, rfl, rfl, rfl, rfl, trivial⟩ (Yx 0 rfl) ?_
  rintro k ⟨hk, hall⟩
  refine Zb <| Za <| gr rfl (Z1 rfl rfl) (Zx (fun hlt => ?_) (fun hlt => ?_))
  · refine gA <| Zb <| Zl rfl <| Zu <| Zf <| Zb <| ZD <| Zb <| Za <| gr rfl (JS Tryz.underlying119 Tryz.underlying37 ty_37 rfl rfl (by omega) (arr3 _ _ _ (by omega))) ?_
    refine gas rfl rfl <| gA <| Zb <| Za <| gm rfl rfl <| gr rfl (ZV rfl rfl) (Zx (fun hne => ?_) (fun hne => ?_))
    · refine gA <| Zl rfl <| Zb <| Xq 3 1 <| Xq 3 1 <| Za <| gr rfl (ZO rfl (fun _ => Zmd)) ?_
      refine gm rfl rfl <| Zs (Zz 2 Z6 rfl rfl rfl rfl rfl rfl (by rfl) ?_)
      refine gas rfl rfl <| gA <| Zr <| Zy <| Zg <| Zg <| Zy <| Zg <| Jv (.inl rfl) Tryz.results16 (YA Tryz.underlying26 rfl Z6 rfl (by rfl) (ZG 2 (off := 0) (k := 2) rfl rfl)) (YO rfl) (ZU (A := [_, _]) (B := [_, _, _, _, _]) (T := q.hl) [0, 1] 5 (by decide) (by decide) rfl rfl) ?_
      have hz := Zbh hall hne
      exact ⟨_, ([], []), none, 0, none, 0, rfl, rfl, .inl ⟨by rw [hz]; exact hne, by rw [hz], rfl⟩⟩
    refine gA <| Zn rfl <| Zu <| ZI <| Zf <| Za <| gr rfl (by exact ZK (b := 1) rfl rfl (by omega)) ?_
    refine gm rfl rfl <| ZM <| Zf ?_
    exact ZT (k + 1) ⟨⟨by omega, fun j hj => by
      rcases Nat.lt_or_eq_of_le (Nat.le_of_lt_succ hj) with h | rfl
      · exact hall j h
      · omega⟩, by omega⟩ ⟨rfl, rfl, rfl, rfl, rfl, rfl, trivial⟩ (Yx 0 rfl)
  refine gA <| Zb <| Zn rfl <| Z2 <| Zt <| Zt <| ZE <| Zf <| Zb ?_
  have hz := Jj (l := [pnE s.ds.length x, Y8 s.ss.length s.cs.length ss cs, q.err]) (fun j hj => hall j (by simp at hj; omega))
  have hx0 : pnE s.ds.length x = 0 := hall 0 (by omega)
  have hr0 : Y8 s.ss.length s.cs.length ss cs = 0 := hall 1 (by omega)
  have hq0 : q.err = 0 := hall 2 (by omega)
  have hqo : q.Ok V n := hq.resolve_right (fun h => h.no hq0)
  obtain ⟨r, rfl, rfl, hr⟩ := Zdt hr0
  rw [Z9] at h1 h2
  rw [Xc] at h1 h2
  rw [Z9, Z9]
  have hkN : kyP x = ((keyN x : Nat) : Int) := (XV hP.nd hx0).2.2.symm
  have hk9 := XV hP.nd hx0
  have hrl1 := Xi hr hns
  have hrl2 := Xj hr hnc
  have hwo := Zby (s := s) x hr
  refine Za <| gm rfl rfl <| gr rfl (Zv Tryz.underlying23 rfl YT rfl (by exact ZG 2 (off := 0) (k := 3) rfl rfl) rfl) ?_
  refine Zs (Yt [_, _, _] q.hl rfl rfl (vf := []) (vc := []) rfl rfl Tryz.call47 rfl (fun w how hc => Zlr q V n hqo _ w hc s bp (hP.out (A := [_, _, _]) how) x hx0) ?_)
  rintro _ _ ⟨kr, kc, kr2, kc2, rfl, rfl⟩
  refine gm rfl rfl <| gr rfl (ZA rfl rfl) <| gr rfl (ZA rfl rfl) <| ZW (fun hks => ?_) (fun hks => ?_)
  · obtain ⟨kp, hkp⟩ := Option.isSome_iff_exists.1 hks
    have hko := hkv hx0 kp hkp
    have hkD : kD V x = kp := by unfold kD; rw [hkp]; rfl
    rw [hkD]
    refine Zs (ZP Z6 rfl rfl (fun b10 => ?_))
    refine Zs (Zz 0 Z6 rfl rfl rfl rfl rfl rfl (by rfl) ?_)
    refine gas rfl rfl <| gA <| Zb <| Zb <| Za <| gm rfl rfl <| gr rfl (rd_not rfl) <| gA <| Zn rfl <| Zu <| Zf <| Zb <| Za <| gm rfl rfl <| gr rfl (Zv Tryz.underlying23 rfl YT rfl (by exact ZG 3 (off := 0) (k := 3) rfl rfl) rfl) ?_
    refine gr rfl (Zv Tryz.underlying26 rfl Z6 rfl (by exact ZG 0 (off := 0) (k := 2) rfl rfl) rfl) ?_
    refine gr rfl (Zv Tryz.underlying26 rfl Z6 rfl (by exact ZG 2 (off := 0) (k := 2) rfl rfl) rfl) ?_
    refine Zs (ZF rfl (vf := []) (vc := []) rfl rfl Tryz.call48 (fun w1 ho => Zgn s bp q.bs w1 (hP.at ho) x kp r hko hr (rowA kr) (rowA kr2) a1 a2 kc kc2 c1 c2 (ho.rowSl 4 rfl) (ho.rowSl 5 rfl) (h1.at ho) (h2.at ho)) ?_)
    rintro _ _ ⟨rS, cS, rC, cC, rfl, rfl⟩
    refine Zs (Zz 3 Z6 rfl rfl rfl rfl rfl rfl (by rfl) ?_)
    refine gas rfl rfl <| gA <| Zr <| Jv (.inl rfl) Tryz.results16 (YA Tryz.underlying26 rfl Z6 rfl (by rfl) (ZG 3 (off := 0) (k := 2) rfl rfl)) (YO rfl) (ZU (A := [_, _]) (B := [_, _, _, _, _, _, _, _]) (T := q.hl) [0, 1] 8 (by decide) (by decide) rfl rfl) ?_
    exact ⟨0, YK s x kp r, rS, cS, rC, cC, rfl, rfl, .inr ⟨hz, hqo, hx0, r, rfl, rfl, hr, .inr ⟨kp, hkp, rfl, rfl⟩⟩⟩
  have hkn : Wl V x = none := by simpa using hks
  refine Zs (ZP Z6 rfl rfl (fun b10 => ?_))
  refine Zs (Zz 0 Z6 rfl rfl rfl rfl rfl rfl (by rfl) ?_)
  refine gas rfl rfl <| gA <| Zb <| Zb <| Za <| gm rfl rfl <| gr rfl (rd_not rfl) <| gA <| Zl rfl <| Zb <| Xq 3 1 <| Xq 3 1 <| Za <| gr rfl (ZO rfl (fun _ => Zmd)) ?_
  refine Zs (Zz 3 Z6 rfl rfl rfl rfl rfl rfl (by rfl) ?_)
  refine gas rfl rfl <| gA <| Zr <| Zg <| Jv (.inl rfl) Tryz.results16 (YA Tryz.underlying26 rfl Z6 rfl (by rfl) (ZG 3 (off := 0) (k := 2) rfl rfl)) (YO rfl) (ZU (A := [_, _]) (B := [_, _, _, _, _, _, _, _]) (T := q.hl) [0, 1] 8 (by decide) (by decide) rfl rfl) ?_
  exact ⟨4, ([], []), none, 0, none, 0, rfl, rfl, .inr ⟨hz, hqo, hx0, r, rfl, rfl, hr, .inl ⟨hkn, rfl, rfl⟩⟩⟩
namespace Ip
def SS.cap (q : SS) : Nat := 10 * (q.f.b.length / 256 - 2)
theorem SS.Like.cap {q q2 : SS} (h : q.Like q2) : q2.cap = q.cap := by unfold SS.cap; rw [h.len]
structure PSt (s : Org) (q : SS) (V : Yl) (n : Nat) (U : List Pis) (L : List (Pis × Rg)) : Prop where
  ok : q.Ok V n
  pr : PR s.ds.length s.ss.length s.cs.length V U L
section
variable {s : Org} {q : SS} {V : Yl} {n : Nat} {U : List Pis} {L : List (Pis × Rg)}
theorem PSt.mlen (h : PSt s q V n U L) : q.m.length = U.length + 1 := by
  have hk : ∀ k, k ∈ (plain q.m).map En.key ↔ V k ≠ none := fun k => by
    constructor
    · intro hk
      obtain ⟨x, hx⟩ := Option.isSome_iff_exists.1 (Zcx hk)
      rw [(h.ok.st.si.so k x hx).2.2]; simp
    · intro hv
      cases e : YJ k (plain q.m) with
      | none => exact absurd (h.ok.st.si.no k e) hv
      | some y => exact Zlf e
  have := h.pr.count h.ok.st.si.nd hk
  simpa [plain] using this
theorem PSt.full (h : PSt s q V n U L) {x : Pis} (hx : pnE s.ds.length x = 0) : Zls V (keyN x) (10 * (q.f.b.length / 256 - 2)) q.m.length ↔ Zec q.cap U x := by
  unfold Zls Zec SS.cap
  rw [h.pr.v1 x hx, h.mlen]
theorem PSt.kept (h : PSt s q V n U L) {x : Pis} (hx : pnE s.ds.length x = 0) : Wl V x = X0 L x := h.pr.kept hx
theorem PSt.rg (h : PSt s q V n U L) {x : Pis} (hx : pnE s.ds.length x = 0) {r : Rg} (hk : Wl V x = some r) : RgOk s.ss.length s.cs.length r := by
  rw [h.kept hx, place_is h.pr.srt] at hk
  exact (h.pr.lok _ hk).2
theorem SS.Ok.mono {q : SS} {V : Yl} {n m : Nat} (h : q.Ok V n) (hm : n ≤ m) : q.Ok V m := ⟨h.st, Nat.le_trans h.pr (Nat.mul_le_mul_left _ hm), Nat.le_trans h.er hm, Nat.le_trans h.num hm⟩
theorem PSt.mono (h : PSt s q V n U L) {m : Nat} (hm : n ≤ m) : PSt s q V m U L := ⟨h.ok.mono hm, h.pr⟩
theorem SS.Torn.mono {q : SS} {V V2 : Yl} {n m : Nat} (h : q.Torn n V V2) (hm : n ≤ m) : q.Torn m V V2 := by
  obtain ⟨V', N, h1, h2⟩ := h.fi
  exact ⟨h.ok, h.dn, ⟨V', N, Nat.le_trans h1 hm, h2⟩, h.sp, Nat.le_trans h.pr (Nat.mul_le_mul_left _ hm), Nat.le_trans h.er hm⟩
end
theorem Zlt {w0 w : World} {S : List Nat} {A T : List HL} (ho : Own w0 S w (A ++ T)) {ad : Addr} {v : Value} (hc : w0.cell? ad = some v) (hS : ad.block ∉ S) : w.cell? ad = some v ∧ ad.block ∉ T.filterMap HL.block := by
  refine ⟨ho.cellOld hc hS, fun hb => ?_⟩
  obtain ⟨x, hx, hxb⟩ := List.mem_filterMap.1 hb
  rcases ho.place x (List.mem_append_right _ hx) _ hxb with h1 | h1
  · exact hS h1
  · have := Zii hc
    omega
end Ip
open Ip
theorem all_okG (s : Org) (bp bs : Nat) (S : List Nat) (w0 : World) (hP : PsIn s bp bs w0 S) (lv : Int) (gf : FuncId) (caps : List Value) (hcall : ∀ args w, (callFunc gf args).run Tryz.prog w = .ok (.enter gf args) w) (I : Nat → List HL → Prop) (Er : Int → List HL → Prop) (hstep : ∀ (i : Nat) (x : Pis) (L : List HL) (w : World), (W0 s.ds.length lv)[i]? = some x → I i L → Own w0 S w L → Sp Tryz.prog gf (Pis.val x :: caps) w (L.filterMap HL.block) (fun v L' => (v = .int .i64 0 ∧ I (i + 1) L') ∨ ∃ e : Int, e ≠ 0 ∧ v = .int .i64 e ∧ Er e L')) (L0 : List HL) (hI0 : I 0 L0) (hown : Own w0 S w0 L0) : Sp Tryz.prog 56 [.pointer (some ⟨bp, 0, none⟩), .int .i64 lv, .func (.func gf) ([] : List Value).toArray (caps : List Value).toArray] w0 S (fun v L => (v = .int .i64 0 ∧ I (W0 s.ds.length lv).length L) ∨ ∃ e : Int, e ≠ 0 ∧ v = .int .i64 e ∧ Er e L) := by
  have hp2 := hP.sp
  have hnd := hP.nd
  refine ZC Tryz.func56 rfl Tryz.ntmps56 rfl hown ?_
  simp only [ZS]
  refine Zb <| Za <| gas rfl rfl <| gA <| Zb <| Zb <| Za <| gm rfl rfl <| gnc rfl rfl <| gr rfl (Zc rfl (JU _)) <| gr rfl (Zc rfl (YF _)) <| gr rfl (Zj Tryz.underlying40 rfl rfl (Yp hp2 hP.o (j := 0) rfl)) <| gr rfl (ZB Tryz.underlying40 rfl) <| gr rfl (by exact ZK (a := 1) rfl rfl (by omega)) ?_
  refine gm rfl rfl <| gA <| ZD <| ZY (ι := Nat × List HL) [(1, _), (2, _), (17, _)] [] (fun q => q.1 ≤ s.ds.length + 1 ∧ I (Zbz q.1 0) q.2) (fun q Fr0 => ((18, natV q.1) :: Fr0)) (fun q Fr0 => (Fr0 ++ q.2)) (fun q => s.ds.length + 1 - q.1) (0, L0) (⟨Nat.zero_le _, hI0⟩) ⟨rfl, rfl, rfl, rfl, trivial⟩ (ZU (A := []) (B := []) (T := L0) [] 0 (by decide) (by decide) rfl rfl) ?_
  rintro ⟨d, L1⟩ ⟨hd, hI1⟩
  simp only at hd hI1 ⊢
  refine Zb <| Za <| gr rfl (Z1 rfl rfl) (Zx (fun h19 => ?_) (fun h19 => ?_))
  · refine gA <| Zb <| Zl rfl <| Zu <| Zf <| Zb <| ZD <| Zb <| Za <| gm rfl rfl <| gas rfl rfl <| gA <| Zb <| Za <| gas rfl rfl <| gA <| Zb <| Zb <| Za <| gm rfl rfl <| gr rfl (Yg rfl rfl) (Zx (fun h22 => ?_) (fun h22 => ?_))
    · have hd0 : d = 0 := by omega
      have hmd : W2 d = 20 := if_pos hd0
      refine gA <| Zl rfl <| Za <| gas rfl rfl <| gA <| Zb <| Za <| gm rfl rfl <| gm rfl rfl <| gA <| ZD <| ZY (ι := Nat × List HL) [(1, _), (2, _), (7, _), (17, _), (18, _), (23, _)] [] (fun q => q.1 ≤ W2 d ∧ I (Zbz d q.1) q.2) (fun q Fr0 => ((24, natV q.1) :: Fr0)) (fun q Fr0 => (Fr0 ++ q.2)) (fun q => W2 d - q.1) (0, L1) (⟨Nat.zero_le _, hI1⟩) ⟨rfl, rfl, rfl, rfl, rfl, rfl, rfl, trivial⟩ (ZU (A := []) (B := []) (T := L1) [] 0 (by decide) (by decide) rfl rfl) ?_
      rintro ⟨k, L2⟩ ⟨hk, hI2⟩
      simp only at hk hI2 ⊢
      refine Zb <| Za <| gr rfl (Z1 rfl rfl) (Zx (fun h25 => ?_) (fun h25 => ?_))
      · refine gA <| Zb <| Zl rfl <| Zu <| Zf <| Zb <| ZD <| Zb <| Za <| gm rfl rfl <| gas rfl rfl <| gA <| Zb <| Za <| gm rfl rfl <| gm rfl rfl <| gm rfl rfl <| gr rfl (WA rfl rfl (by omega) (by omega)) ?_
        refine gm rfl rfl <| gr rfl (X7 rfl rfl (by omega) (by omega)) ?_
        refine gr rfl (ZO rfl (fun _ => WH _ _ _)) ?_
        refine Zs (Yt [] L2 rfl rfl (vf := []) (vc := caps) rfl rfl hcall rfl (fun w how hc => hstep _ ⟨lv, _, _⟩ L2 w (Zjl (by omega) (by omega)) hI2 how) ?_)
        rintro v9 L9 (⟨rfl, hI9⟩ | ⟨e9, he9, rfl, hE9⟩)
        · refine gas rfl rfl <| gA <| Zb <| Za <| gm rfl rfl <| gr rfl (ZV rfl rfl) (Zx (fun h36 => ?_) (fun h36 => ?_))
          · exact absurd rfl h36
          refine gA <| Zn rfl <| Zu <| ZI <| Zf <| Za <| gr rfl (by exact ZK (b := 1) rfl rfl (by omega)) ?_
          refine gm rfl rfl <| ZM <| Zf ?_
          exact ZT ((k + 1, L9)) ⟨⟨by simp only; omega, by rw [Zib]; exact hI9⟩, by simp only; omega⟩ ⟨rfl, rfl, rfl, rfl, rfl, rfl, rfl, trivial⟩ (ZU (A := []) (B := []) (T := L9) [] 0 (by decide) (by decide) rfl rfl)
        refine gas rfl rfl <| gA <| Zb <| Za <| gm rfl rfl <| gr rfl (ZV rfl rfl) (Zx (fun h36 => ?_) (fun h36 => ?_))
        · refine gA <| Zl rfl <| Zb <| Za <| gm rfl rfl <| gas rfl rfl <| gA <| Zr <| Zy <| Zg <| Zg <| Zy <| Zy <| Zg <| Zg <| Zy <| Zg <| Z7 (.inl rfl) Tryz.results56 rfl (ZU (A := []) (B := []) (T := L9) [] 0 (by decide) (by decide) rfl rfl) ?_
          exact .inr ⟨e9, he9, rfl, hE9⟩
        exact absurd he9 h36
      have hk9 : k = W2 d := by omega
      refine gA <| Zb <| Zn rfl <| Z2 <| Zt <| Zt <| ZE <| ZI <| Zf <| Za <| gr rfl (by exact ZK (b := 1) rfl rfl (by omega)) ?_
      refine gm rfl rfl <| ZM <| Zf ?_
      exact ZT ((d + 1, L2)) ⟨⟨by simp only; omega, by rw [← Zic, ← hk9]; exact hI2⟩, by simp only; omega⟩ ⟨rfl, rfl, rfl, rfl, trivial⟩ (ZU (A := []) (B := []) (T := L2) [] 0 (by decide) (by decide) rfl rfl)
    have hmd : W2 d = 8 := if_neg (by omega)
    refine gA <| Zn rfl <| Zu <| Zf <| Zb <| Za <| gm rfl rfl <| gm rfl rfl <| gA <| ZD <| ZY (ι := Nat × List HL) [(1, _), (2, _), (7, _), (17, _), (18, _), (23, _)] [] (fun q => q.1 ≤ W2 d ∧ I (Zbz d q.1) q.2) (fun q Fr0 => ((24, natV q.1) :: Fr0)) (fun q Fr0 => (Fr0 ++ q.2)) (fun q => W2 d - q.1) (0, L1) (⟨Nat.zero_le _, hI1⟩) ⟨rfl, rfl, rfl, rfl, rfl, rfl, rfl, trivial⟩ (ZU (A := []) (B := []) (T := L1) [] 0 (by decide) (by decide) rfl rfl) ?_
    rintro ⟨k, L2⟩ ⟨hk, hI2⟩
    simp only at hk hI2 ⊢
    refine Zb <| Za <| gr rfl (Z1 rfl rfl) (Zx (fun h25 => ?_) (fun h25 => ?_))
    · refine gA <| Zb <| Zl rfl <| Zu <| Zf <| Zb <| ZD <| Zb <| Za <| gm rfl rfl <| gas rfl rfl <| gA <| Zb <| Za <| gm rfl rfl <| gm rfl rfl <| gm rfl rfl <| gr rfl (WA rfl rfl (by omega) (by omega)) ?_
      refine gm rfl rfl <| gr rfl (X7 rfl rfl (by omega) (by omega)) ?_
      refine gr rfl (ZO rfl (fun _ => WH _ _ _)) ?_
      refine Zs (Yt [] L2 rfl rfl (vf := []) (vc := caps) rfl rfl hcall rfl (fun w how hc => hstep _ ⟨lv, _, _⟩ L2 w (Zjl (by omega) (by omega)) hI2 how) ?_)
      rintro v9 L9 (⟨rfl, hI9⟩ | ⟨e9, he9, rfl, hE9⟩)
      · refine gas rfl rfl <| gA <| Zb <| Za <| gm rfl rfl <| gr rfl (ZV rfl rfl) (Zx (fun h36 => ?_) (fun h36 => ?_))
        · exact absurd rfl h36
        refine gA <| Zn rfl <| Zu <| ZI <| Zf <| Za <| gr rfl (by exact ZK (b := 1) rfl rfl (by omega)) ?_
        refine gm rfl rfl <| ZM <| Zf ?_
        exact ZT ((k + 1, L9)) ⟨⟨by simp only; omega, by rw [Zib]; exact hI9⟩, by simp only; omega⟩ ⟨rfl, rfl, rfl, rfl, rfl, rfl, rfl, trivial⟩ (ZU (A := []) (B := []) (T := L9) [] 0 (by decide) (by decide) rfl rfl)
      refine gas rfl rfl <| gA <| Zb <| Za <| gm rfl rfl <| gr rfl (ZV rfl rfl) (Zx (fun h36 => ?_) (fun h36 => ?_))
      · refine gA <| Zl rfl <| Zb <| Za <| gm rfl rfl <| gas rfl rfl <| gA <| Zr <| Zy <| Zg <| Zg <| Zy <| Zy <| Zg <| Zg <| Zy <| Zg <| Z7 (.inl rfl) Tryz.results56 rfl (ZU (A := []) (B := []) (T := L9) [] 0 (by decide) (by decide) rfl rfl) ?_
        exact .inr ⟨e9, he9, rfl, hE9⟩
      exact absurd he9 h36
    have hk9 : k = W2 d := by omega
    refine gA <| Zb <| Zn rfl <| Z2 <| Zt <| Zt <| ZE <| ZI <| Zf <| Za <| gr rfl (by exact ZK (b := 1) rfl rfl (by omega)) ?_
    refine gm rfl rfl <| ZM <| Zf ?_
    exact ZT ((d + 1, L2)) ⟨⟨by simp only; omega, by rw [← Zic, ← hk9]; exact hI2⟩, by simp only; omega⟩ ⟨rfl, rfl, rfl, rfl, trivial⟩ (ZU (A := []) (B := []) (T := L2) [] 0 (by decide) (by decide) rfl rfl)
  refine gA <| Zb <| Zn rfl <| Z2 <| Zt <| Zt <| ZE <| Zf <| Zb <| Za <| gas rfl rfl <| gA <| Zr <| Z7 (.inl rfl) Tryz.results56 rfl (ZU (A := []) (B := []) (T := L1) [] 0 (by decide) (by decide) rfl rfl) ?_
  exact .inl ⟨rfl, by rw [← cntA_end lv, ← show d = s.ds.length + 1 by omega]; exact hI1⟩
namespace Ip
end Ip
open Ip
namespace Ip
theorem PSt.used {s : Org} {q : SS} {V : Yl} {n : Nat} {U : List Pis} {L : List (Pis × Rg)} (h : PSt s q V n U L) {x : Pis} (hx : pnE s.ds.length x = 0) (hk : (Wl V x).isSome = true) : x ∈ U ∧ V (keyN x) ≠ none := by
  have hv : V (keyN x) ≠ none := fun e => by
    unfold Wl at hk
    rw [e] at hk; cases hk
  exact ⟨Classical.byContradiction fun hn => hv ((h.pr.v1 x hx).2 hn), hv⟩
end Ip
open Ip
namespace Ip
abbrev Pis.cells (x : Pis) : List Value := [.int .i64 x.lv, .int .i64 x.dv, .int .i64 x.nm]
theorem pis_snoc (xs : List Pis) (x : Pis) : xs.flatMap Pis.cells ++ [.int .i64 x.lv, .int .i64 x.dv, .int .i64 x.nm] = (xs ++ [x]).flatMap Pis.cells := by simp
def Ww (V : Yl) (qf : Pis → Rg → Bool) (x : Pis) : Bool := match Wl V x with | some r => qf x r | none => false
def allN (nd l : Nat) : List Pis := (List.range l).flatMap fun l : Nat => W0 nd ((l : Int) + 1)
theorem Zid (nd l : Nat) : allN nd (l + 1) = allN nd l ++ W0 nd ((l : Int) + 1) := by
  unfold allN
  rw [List.range_succ, List.flatMap_append]; simp
theorem Zlu (nd : Nat) (hn : nd ≤ 6) : ∀ l, (allN nd l).length ≤ 68 * l
  | 0 => by simp [allN]
  | l + 1 => by
    have := Zlu nd hn l
    rw [Zid, List.length_append, VW]; omega
theorem take_fil {l : List Pis} {i : Nat} {x : Pis} (hx : l[i]? = some x) (f : Pis → Bool) : (l.take (i + 1)).filter f = (l.take i).filter f ++ (if f x = true then [x] else []) := by
  rw [List.take_add_one, hx, List.filter_append]
  cases h : f x <;> simp [h]
end Ip
open Ip
theorem Zm8 (q : SS) (V : Yl) (n : Nat) (hq : q.Ok V n) (s : Org) (bp : Nat) (S : List Nat) (w0 : World) (hP : PsIn s bp q.bs w0 S) (qf : Pis → Rg → Bool) (xs : List Pis) (hxl : xs.length ≤ 100000) (b5 : Nat) (r0 : Option Nat) (c0 : Nat) (hown : Own w0 S w0 (.blk b5 [.slice (rowA r0) xs.length c0] 56 :: .row 23 3 r0 xs.length c0 (xs.flatMap Pis.cells) :: q.hl)) (x : Pis) (hx : pnE s.ds.length x = 0) (hrg : ∀ r, Wl V x = some r → RgOk s.ss.length s.cs.length r) (b1 b2 : Nat) (hc1 : w0.cell? ⟨b1, 0, none⟩ = some (.pointer (some ⟨bp, 0, none⟩))) (hs1 : b1 ∉ S) (gf2 : FuncId) (caps2 : List Value) (hcall2 : ∀ args w, (callFunc gf2 args).run Tryz.prog w = .ok (.enter gf2 args) w) (hc2 : w0.cell? ⟨b2, 0, none⟩ = some (.func (.func gf2) ([] : List Value).toArray (caps2 : List Value).toArray)) (hs2 : b2 ∉ S) (hqf : ∀ (k : Rg) (r : Option Nat) (c : Nat) (r2 : Option Nat) (c2 : Nat) (w : World) (l : List HL), Own w0 S w l → RgOk s.ss.length s.cs.length k → OldSl w [] (rowA r) k.1.length 1 (k.1.map natV) → OldSl w [] (rowA r2) k.2.length 1 (k.2.map natV) → Sp Tryz.prog gf2 (Pis.val x :: .agg #[.slice (rowA r) k.1.length c, .slice (rowA r2) k.2.length c2] :: caps2) w [] (RV (.bool (qf x k)))) : Sp Tryz.prog 93 [Pis.val x, .pointer (some ⟨b1, 0, none⟩), .pointer (some ⟨b2, 0, none⟩), .pointer (some ⟨b5, 0, none⟩)] w0 S (fun v L => v = .int .i64 0 ∧ ∃ (r : Option Nat) (c : Nat), L = .blk b5 [.slice (rowA r) (xs ++ if Ww V qf x = true then [x] else []).length c] 56 :: .row 23 3 r (xs ++ if Ww V qf x = true then [x] else []).length c ((xs ++ if Ww V qf x = true then [x] else []).flatMap Pis.cells) :: q.hl) := by
  refine ZC Tryz.func93 rfl Tryz.ntmps93 rfl hown ?_
  simp only [ZS]
  refine Zb <| Za <| Zs (Yb rfl rfl rfl (fun b4 => ?_))
  refine gas rfl rfl <| gA <| Zb <| Zb <| Za <| gr rfl (Zj Tryz.underlying36 rfl rfl (Ze5 hc1 hs1)) <| gr rfl (Zv Tryz.underlying23 rfl YT rfl (by exact ZG 0 (off := 0) (k := 3) rfl rfl) rfl) ?_
  refine Zs (Yt [_, _, _] q.hl rfl rfl (vf := []) (vc := []) rfl rfl Tryz.call47 rfl (fun w how hc => Zlr q V n hq _ w hc s bp (hP.out (A := [_, _, _]) how) x hx) ?_)
  rintro _ _ ⟨kr, kc, lr, lc, rfl, rfl⟩
  refine gm rfl rfl <| gr rfl (ZA rfl rfl) <| gr rfl (ZA rfl rfl) <| ZW (fun h13 => ?_) (fun h13 => ?_)
  · obtain ⟨r, hkr⟩ := Option.isSome_iff_exists.1 h13
    have hkD : kD V x = r := by unfold kD; rw [hkr]; rfl
    rw [hkD]
    have hr := hrg r hkr
    have hkb : Ww V qf x = qf x r := by unfold Ww; rw [hkr]
    refine Zs (ZP Z6 rfl rfl (fun b6 => ?_))
    refine Zs (Zz 0 Z6 rfl rfl rfl rfl rfl rfl (by rfl) ?_)
    refine gas rfl rfl <| gA <| Zb <| Za <| gm rfl rfl <| gm rfl rfl <| Ze rfl rfl <| Zk rfl (Zj Tryz.underlying124 rfl rfl (Ze5 hc2 hs2)) <| Ze rfl rfl (Zk rfl (Zv Tryz.underlying23 rfl YT rfl (by exact ZG 1 (off := 0) (k := 3) rfl rfl) rfl) ?_)
    refine Ze rfl rfl (Zk rfl (Zv Tryz.underlying26 rfl Z6 rfl (by exact ZG 0 (off := 0) (k := 2) rfl rfl) rfl) ?_)
    refine Ze rfl rfl (ZF rfl (vf := []) (vc := caps2) rfl rfl hcall2 (fun w1 ho => hqf r kr kc lr lc w1 _ ho hr (ho.rowSl 4 rfl) (ho.rowSl 5 rfl)) ?_)
    rintro _ _ ⟨rfl, rfl⟩
    refine ZW (fun h19 => ?_) (fun h19 => ?_)
    · refine gr rfl (Zp rfl rfl) <| gA <| Zl rfl <| Za <| gr rfl (Zj Tryz.underlying56 rfl rfl (by exact Zo 2 rfl rfl)) ?_
      refine gr rfl (Zv Tryz.underlying23 rfl YT rfl (by exact ZG 1 (off := 0) (k := 3) rfl rfl) rfl) ?_
      refine Zs (Z0 (sz := 3) rfl rfl (fun _ => Zok _ _ _) rfl rfl (fun b23 => ?_))
      refine Zs (Y6 4 0 Tryz.underlying56 YT rfl (by decide) rfl rfl rfl rfl rfl (by simp [Value.oneCell']) (by omega) (by omega) (fun _ => (by rfl)) (fun r24 c24 => ?_))
      refine Zs (Yd 3 ty_56 rfl rfl rfl rfl rfl (by rfl) (by rfl) ?_)
      refine gA <| Zb ?_
      rw [pis_snoc, show xs.length + 1 = (xs ++ [x]).length by simp]
      refine Za <| gas rfl rfl <| gA <| Zr <| Z7 (.inl rfl) Tryz.results93 rfl (ZU (A := [_, _]) (B := [_, _, _, _, _, _, _]) (T := q.hl) [3, 4] 7 (by decide) (by decide) rfl rfl) ?_
      have e9 : Ww V qf x = true := by rw [hkb]; exact h19
      rw [e9]
      exact ⟨rfl, r24, c24, rfl⟩
    refine gr rfl (Zp rfl rfl) <| gA <| Zn rfl <| Zu <| Zf <| Zb <| Za <| gas rfl rfl <| gA <| Zr <| Z7 (.inl rfl) Tryz.results93 rfl (ZU (A := [_, _]) (B := [_, _, _, _, _, _]) (T := q.hl) [2, 3] 6 (by decide) (by decide) rfl rfl) ?_
    have e9 : Ww V qf x = false := by rw [hkb, h19]
    rw [e9]
    rw [show (xs ++ if (false = true) then [x] else []) = xs by simp]
    exact ⟨rfl, r0, c0, rfl⟩
  have hkn : Wl V x = none := by simpa using h13
  have hkb : Ww V qf x = false := by unfold Ww; rw [hkn]
  refine Zs (ZP Z6 rfl rfl (fun b6 => ?_))
  refine Zs (Zz 0 Z6 rfl rfl rfl rfl rfl rfl (by rfl) ?_)
  refine gas rfl rfl <| gA <| Zb <| Za <| gm rfl rfl <| gm rfl rfl <| Zi rfl rfl rfl <| Zi rfl rfl rfl <| Zi rfl rfl rfl <| Zi rfl rfl rfl <| gr rfl (Zm rfl rfl) <| gA <| Zn rfl <| Zu <| Zf <| Zb <| Za <| gas rfl rfl <| gA <| Zr <| Z7 (.inl rfl) Tryz.results93 rfl (ZU (A := [_, _]) (B := [_, _, _, _, _, _]) (T := q.hl) [2, 3] 6 (by decide) (by decide) rfl rfl) ?_
  have e9 : Ww V qf x = false := by rw [hkb]
  rw [e9]
  rw [show (xs ++ if (false = true) then [x] else []) = xs by simp]
  exact ⟨rfl, r0, c0, rfl⟩
namespace Ip
def ListI (q : SS) (V : Yl) (qf : Pis → Rg → Bool) (b5 : Nat) (pre lev : List Pis) (i : Nat) (T : List HL) : Prop := ∃ (xs : List Pis) (r : Option Nat) (c : Nat), xs = pre ++ ((lev.take i).filter (Ww V qf)) ∧ T = .blk b5 [.slice (rowA r) xs.length c] 56 :: .row 23 3 r xs.length c (xs.flatMap Pis.cells) :: q.hl
theorem list_hs {s : Org} {q : SS} {V : Yl} {n : Nat} {bp b1 b2 b5 : Nat} {w0 w : World} {S0 S : List Nat} {l0 : List HL} {qf : Pis → Rg → Bool} {pre : List Pis} {lv : Int} (hq : q.Ok V n) (hpre : pre.length ≤ 1000) (h1 : 1 ≤ lv) (h8 : lv ≤ 8) (hrg : ∀ x r, pnE s.ds.length x = 0 → Wl V x = some r → RgOk s.ss.length s.cs.length r)
    (hP : PsIn s bp q.bs w S) (hc1 : w.cell? ⟨b1, 0, none⟩ = some (.pointer (some ⟨bp, 0, none⟩))) (hs1 : b1 ∉ S) {gf2 : FuncId} {caps2 : List Value} (hcall2 : ∀ args w, (callFunc gf2 args).run Tryz.prog w = .ok (.enter gf2 args) w) (hc2 : w.cell? ⟨b2, 0, none⟩ = some (.func (.func gf2) ([] : List Value).toArray (caps2 : List Value).toArray)) (hs2 : b2 ∉ S)
    (ho0 : Own w0 S0 w l0) (hSS : ∀ b ∈ S, b ∈ S0 ∨ w0.heap.size ≤ b) (hqf : ∀ (x : Pis) (k : Rg) (r : Option Nat) (c : Nat) (r2 : Option Nat) (c2 : Nat) (w : World) (l : List HL), Own w0 S0 w l → pnE s.ds.length x = 0 → RgOk s.ss.length s.cs.length k → OldSl w [] (rowA r) k.1.length 1 (k.1.map natV) → OldSl w [] (rowA r2) k.2.length 1 (k.2.map natV) → Sp Tryz.prog gf2 (Pis.val x :: .agg #[.slice (rowA r) k.1.length c, .slice (rowA r2) k.2.length c2] :: caps2) w [] (RV (.bool (qf x k)))) (i : Nat) (x : Pis) (L : List HL) (w2 : World) (hget : (W0 s.ds.length lv)[i]? = some x) (hI : ListI q V qf b5 pre (W0 s.ds.length lv) i L) (ho : Own w S w2 L) :
    Sp Tryz.prog 93 (Pis.val x :: [.pointer (some ⟨b1, 0, none⟩), .pointer (some ⟨b2, 0, none⟩), .pointer (some ⟨b5, 0, none⟩)]) w2 (L.filterMap HL.block) (fun v L' => (v = .int .i64 0 ∧ ListI q V qf b5 pre (W0 s.ds.length lv) (i + 1) L') ∨ ∃ e : Int, e ≠ 0 ∧ v = .int .i64 e ∧ False) := by
  obtain ⟨xs, r7, c7, hxs, rfl⟩ := hI
  have hnd := hP.nd
  have hx := ((Zgk h1 h8).1 (List.mem_of_getElem? hget)).2
  have hxl : xs.length ≤ 100000 := by
    have h3 := List.length_filter_le (Ww V qf) ((W0 s.ds.length lv).take i)
    have h4 : ((W0 s.ds.length lv).take i).length ≤ 68 := by rw [List.length_take, VW]; omega
    rw [hxs, List.length_append]; omega
  have hP2 := hP.out (A := []) ho
  obtain ⟨e1, f1⟩ := Zlt (A := []) ho hc1 hs1
  obtain ⟨e2, f2⟩ := Zlt (A := []) ho hc2 hs2
  have hqf2 : ∀ (k : Rg) (r : Option Nat) (c : Nat) (r2 : Option Nat) (c2 : Nat) (w9 : World) (l9 : List HL), Own w2 ((.blk b5 [.slice (rowA r7) xs.length c7] 56 :: .row 23 3 r7 xs.length c7 (xs.flatMap Pis.cells) :: q.hl).filterMap HL.block) w9 l9 → RgOk s.ss.length s.cs.length k → OldSl w9 [] (rowA r) k.1.length 1 (k.1.map natV) → OldSl w9 [] (rowA r2) k.2.length 1 (k.2.map natV) → Sp Tryz.prog gf2 (Pis.val x :: .agg #[.slice (rowA r) k.1.length c, .slice (rowA r2) k.2.length c2] :: caps2) w9 [] (RV (.bool (qf x k))) := by
    intro k r3 c3 r2 c2 w9 l9 ho9 hk hs3 hs4
    have hsub : ∀ b ∈ (.blk b5 [.slice (rowA r7) xs.length c7] 56 :: .row 23 3 r7 xs.length c7 (xs.flatMap Pis.cells) :: q.hl).filterMap HL.block, b ∈ S ∨ w.heap.size ≤ b := fun b hb => by
      obtain ⟨y, hy, hyb⟩ := List.mem_filterMap.1 hb
      exact ho.place y hy b hyb
    have k1 : Own w S w9 l9 := by
      have := ho.called ho9 (ho.sub (Zcc [] _)) hsub (by simp)
      rwa [List.append_nil] at this
    have k2 : Own w0 S0 w9 l9 := by
      have := ho0.called k1 (ho0.sub (Zcc [] _)) hSS (by simp)
      rwa [List.append_nil] at this
    exact hqf x k r3 c3 r2 c2 w9 l9 k2 hx hk hs3 hs4
  refine (Zm8 q V n hq s bp _ w2 hP2 qf xs hxl b5 r7 c7 ho.inBlocks x hx (fun r h => hrg x r hx h) b1 b2 e1 f1 gf2 caps2 hcall2 e2 f2 hqf2).mono ?_
  rintro v L' ⟨rfl, r9, c9, rfl⟩
  refine .inl ⟨rfl, _, r9, c9, ?_, rfl⟩
  rw [take_fil hget, hxs, List.append_assoc]
end Ip
open Ip
namespace Ip
theorem JJ (a b c d : HL) (T : List HL) : Sub ([c, d] ++ (a :: b :: T)) ([a, b, c, d] ++ T) := ZU (A := [c, d, a, b]) (B := [a, b, c, d]) (T := T) [2, 3, 0, 1] 4 (by decide) (by decide) rfl rfl
end Ip
open Ip
theorem Zm9 (q : SS) (V : Yl) (n : Nat) (hq : q.Ok V n) (s : Org) (bp : Nat) (S : List Nat) (w0 : World) (hown : Own w0 S w0 q.hl) (hP : PsIn s bp q.bs w0 S) (qf : Pis → Rg → Bool) (hrg : ∀ x r, pnE s.ds.length x = 0 → Wl V x = some r → RgOk s.ss.length s.cs.length r) (gf2 : FuncId) (caps2 : List Value) (hcall2 : ∀ args w, (callFunc gf2 args).run Tryz.prog w = .ok (.enter gf2 args) w) (hqf : ∀ (x : Pis) (k : Rg) (r : Option Nat) (c : Nat) (r2 : Option Nat) (c2 : Nat) (w : World) (l : List HL), Own w0 S w l → pnE s.ds.length x = 0 → RgOk s.ss.length s.cs.length k → OldSl w [] (rowA r) k.1.length 1 (k.1.map natV) → OldSl w [] (rowA r2) k.2.length 1 (k.2.map natV) → Sp Tryz.prog gf2 (Pis.val x :: .agg #[.slice (rowA r) k.1.length c, .slice (rowA r2) k.2.length c2] :: caps2) w [] (RV (.bool (qf x k)))) : Sp Tryz.prog 49 [.pointer (some ⟨bp, 0, none⟩), .func (.func gf2) ([] : List Value).toArray (caps2 : List Value).toArray] w0 S (fun v L => ∃ (r : Option Nat) (c : Nat), v = .slice (rowA r) ((Zds s.ds.length).filter (Ww V qf)).length c ∧ L = .row 23 3 r ((Zds s.ds.length).filter (Ww V qf)).length c (((Zds s.ds.length).filter (Ww V qf)).flatMap Pis.cells) :: q.hl) := by
  have hnd := hP.nd
  refine ZC Tryz.func49 rfl Tryz.ntmps49 rfl hown ?_
  simp only [ZS]
  refine Zb <| Za <| Zs (Yb rfl rfl rfl (fun b2 => ?_))
  refine Zs (Yb rfl rfl rfl (fun b3 => ?_))
  refine gas rfl rfl <| gA <| Zb <| Za <| Zs (ZP ty_56 rfl rfl (fun b5 => ?_))
  refine gA <| Zb <| Zb <| Za <| gm rfl rfl <| gA <| ZD <| Xq 23 3 <| ZY (ι := Nat × Option Nat × Nat) [(2, _), (3, _), (5, _)] (_ :: _ :: q.hl) (fun q9 => q9.1 ≤ 8) (fun q9 Fr0 => ((7, natV q9.1) :: Fr0)) (fun q9 Fr0 => (.blk b5 [.slice (rowA q9.2.1) ((allN s.ds.length q9.1).filter (Ww V qf)).length q9.2.2] 56 :: .row 23 3 q9.2.1 ((allN s.ds.length q9.1).filter (Ww V qf)).length q9.2.2 (((allN s.ds.length q9.1).filter (Ww V qf)).flatMap Pis.cells) :: Fr0)) (fun q9 => 8 - q9.1) (0, none, 0) (by simp) ⟨rfl, rfl, rfl, rfl, trivial⟩ (ZU (A := [_, _, _, _]) (B := [_, _, _, _]) (T := q.hl) [1, 0, 2, 3] 4 (by decide) (by decide) rfl rfl) ?_
  rintro ⟨l, r, c⟩ hl
  simp only at hl ⊢
  have hll := Zlu s.ds.length hnd l
  have hlf := List.length_filter_le (Ww V qf) (allN s.ds.length l)
  refine Zb <| Za <| gr rfl (Z1 rfl rfl) (Zx (fun h8 => ?_) (fun h8 => ?_))
  · refine gA <| Zb <| Zl rfl <| Zu <| Zf <| Zb <| ZD <| Zb <| Za <| gm rfl rfl <| gas rfl rfl <| gA <| Za <| gr rfl (Zj Tryz.underlying36 rfl rfl (by exact Zo 3 rfl rfl)) ?_
    refine gm rfl rfl <| gr rfl (X7 rfl rfl (by omega) (by omega)) ?_
    refine gr rfl (WF (fs := []) (cs := [.tmp 2, .tmp 3, .tmp 5]) rfl rfl) <| Zs (Zde [_, _, _, _] q.hl [0, 1] [2, 3] 4 rfl rfl rfl (vf := []) (vc := []) rfl rfl Tryz.call56 (by decide) (by decide) rfl (fun w how hc => all_okG s bp q.bs _ w (hP.out (A := [_, _]) (how.sub (JJ _ _ _ _ _))) _ 93 [.pointer (some ⟨b2, 0, none⟩), .pointer (some ⟨b3, 0, none⟩), .pointer (some ⟨b5, 0, none⟩)] Tryz.call93 (ListI q V qf b5 ((allN s.ds.length l).filter (Ww V qf)) (W0 s.ds.length ((l : Int) + 1))) (fun _ _ => False) (list_hs hq (by omega) (by omega) (by omega) hrg (hP.out (A := [_, _]) (how.sub (JJ _ _ _ _ _))) (how.blkCell 3 rfl rfl) (Own.blkOutT (A := [_, _]) (how.sub (JJ _ _ _ _ _)) 1 rfl) hcall2 (how.blkCell 2 rfl rfl) (Own.blkOutT (A := [_, _]) (how.sub (JJ _ _ _ _ _)) 0 rfl) how (fun b hb => by obtain ⟨y, hy, hyb⟩ := List.mem_filterMap.1 hb; exact (how.sub (JJ _ _ _ _ _)).place y (List.mem_append_right [_, _] hy) b hyb) hqf) _ ⟨_, r, c, by simp, rfl⟩ hc) ?_)
    rintro _ _ (⟨rfl, ys9, r9, c9, hys, rfl⟩ | ⟨e9, _, _, hF⟩)
    · refine JQ [_, _] q.hl [_, _] ?_
      rw [List.take_length, ← List.filter_append, ← Zid] at hys
      subst hys
      refine ZM <| ZI <| Zf <| Za <| gr rfl (by exact ZK (b := 1) rfl rfl (by omega)) ?_
      refine gm rfl rfl <| ZM <| Zf ?_
      exact ZT ((l + 1, r9, c9)) ⟨by simp only; omega, by simp only; omega⟩ ⟨rfl, rfl, rfl, rfl, trivial⟩ (Yx 0 rfl)
    exact hF.elim
  refine gA <| Zb <| Zn rfl <| Z2 <| Zt <| Zt <| ZE <| Zf <| Zb <| Za <| gr rfl (Zj Tryz.underlying56 rfl rfl (by exact Zo 0 rfl rfl)) ?_
  refine gas rfl rfl <| gA <| Zr <| Z7 (.inl rfl) Tryz.results49 rfl (ZU (A := [_]) (B := [_, _, _, _]) (T := q.hl) [1] 4 (by decide) (by decide) rfl rfl) ?_
  have hl9 : l = 8 := by omega
  subst hl9
  exact ⟨r, c, rfl, rfl⟩
namespace Ip
theorem PSt.listed {s : Org} {q : SS} {V : Yl} {n : Nat} {U : List Pis} {L : List (Pis × Rg)} (h : PSt s q V n U L) (qf : Pis → Rg → Bool) : (Zds s.ds.length).filter (Ww V qf) = (L.filter fun p => qf p.1 p.2).map (·.1) := Zo8 h.pr qf
def LitIs (s : Org) (q : SS) (s0 : RS) (ss cs : List Int) (e : Int) (l : List Pis) : Prop :=
  (XC [Y8 s.ss.length s.cs.length ss cs, q.err] ≠ 0 ∧ e = XC [Y8 s.ss.length s.cs.length ss cs, q.err] ∧ l = []) ∨
  (XC [Y8 s.ss.length s.cs.length ss cs, q.err] = 0 ∧ e = 0 ∧ ∃ r : Rg, ss = Ym r.1 ∧ cs = Ym r.2 ∧ RgOk s.ss.length s.cs.length r ∧ l = (s0.2.filter fun p => litF s r p.1 p.2).map (·.1))
end Ip
open Ip
theorem lit1_ok (s : Org) (bp bs : Nat) (w0 : World) (hP : PsIn s bp bs w0 []) (x : Pis) (k w : Rg) (hk : RgOk s.ss.length s.cs.length k) (hw : RgOk s.ss.length s.cs.length w) (a1 a2 a3 a4 : Option Addr) (c1 c2 c3 c4 : Nat) (h1 : OldSl w0 [] a1 k.1.length 1 (k.1.map natV)) (h2 : OldSl w0 [] a2 k.2.length 1 (k.2.map natV)) (h3 : OldSl w0 [] a3 w.1.length 1 (w.1.map natV)) (h4 : OldSl w0 [] a4 w.2.length 1 (w.2.map natV)) (b1 b2 : Nat) (hc1 : w0.cell? ⟨b1, 0, none⟩ = some (.pointer (some ⟨bp, 0, none⟩))) (hb2 : Cells w0 ⟨b2, 0, none⟩ [.slice a3 w.1.length c3, .slice a4 w.2.length c4]) : Sp Tryz.prog 51 [Pis.val x, .agg #[.slice a1 k.1.length c1, .slice a2 k.2.length c2], .pointer (some ⟨b1, 0, none⟩), .pointer (some ⟨b2, 0, none⟩)] w0 [] (RV (.bool (litF s w x k))) := by
  have hns := hP.ns
  have hnc := hP.nc
  have hpo := Za6 s x k w
  have hl1 := Xi hpo hns
  have hl2 := Xj hpo hnc
  refine ZC Tryz.func51 rfl Tryz.ntmps51 rfl (Own.refl _) ?_
  simp only [ZS]
  refine Zb <| Za <| Zs (Yb rfl rfl rfl (fun b4 => ?_))
  refine Zs (Yb rfl rfl rfl (fun b5 => ?_))
  refine gas rfl rfl <| gA <| Zb <| Za <| gr rfl (Zj Tryz.underlying36 rfl rfl (Ze5 hc1 (by simp))) ?_
  refine gr rfl (Zv Tryz.underlying23 rfl YT rfl (by exact ZG 1 (off := 0) (k := 3) rfl rfl) rfl) ?_
  refine gr rfl (Zv Tryz.underlying26 rfl Z6 rfl (by exact ZG 0 (off := 0) (k := 2) rfl rfl) rfl) ?_
  refine gr rfl (Zv Tryz.underlying26 rfl Z6 rfl (cs_old hb2 (by simp)) rfl) ?_
  refine Zs (ZF rfl (vf := []) (vc := []) rfl rfl Tryz.call48 (fun w1 ho => Zgn s bp bs w1 (hP.at ho) x k w hk hw a1 a2 a3 a4 c1 c2 c3 c4 (h1.at ho) (h2.at ho) (h3.at ho) (h4.at ho)) ?_)
  rintro _ _ ⟨rS, cS, rC, cC, rfl, rfl⟩
  refine Zs (ZP Z6 rfl rfl (fun b7 => ?_))
  refine Zs (Zz 0 Z6 rfl rfl rfl rfl rfl rfl (by rfl) ?_)
  refine gA <| Zb <| Za <| gr rfl (Zc rfl (Xa _)) <| gr rfl (Zj Tryz.underlying24 rfl rfl (by exact Zo 0 rfl rfl)) ?_
  refine gr rfl (Zc rfl (Xa _)) <| gr rfl (Zj Tryz.underlying24 rfl rfl (Yp hb2 (by simp) (j := 0) rfl)) ?_
  refine Zs (ZF rfl (vf := []) (vc := []) rfl rfl Tryz.call52 (fun w1 ho => Zh7 (YK s x k w).1 w.1 _ _ _ _ (by omega) w1 (ho.rowSl 1 rfl) (h3.at ho)) ?_)
  rintro _ _ ⟨rfl, rfl⟩
  refine ZW (fun h17 => ?_) (fun h17 => ?_)
  · refine gm rfl rfl <| Ze rfl rfl <| Zk rfl (Zc rfl (Xb _)) <| Ze rfl rfl (Zk rfl (Zj Tryz.underlying24 rfl rfl (by exact Zo 0 rfl rfl)) ?_)
    refine Ze rfl rfl <| Zk rfl (Zc rfl (Xb _)) <| Ze rfl rfl (Zk rfl (Zj Tryz.underlying24 rfl rfl (Yp hb2 (by simp) (j := 1) rfl)) ?_)
    refine Ze rfl rfl (ZF rfl (vf := []) (vc := []) rfl rfl Tryz.call52 (fun w1 ho => Zh7 (YK s x k w).2 w.2 _ _ _ _ (by omega) w1 (ho.rowSl 2 rfl) (h4.at ho)) ?_)
    rintro _ _ ⟨rfl, rfl⟩
    refine gr rfl (Zp rfl rfl) <| gas rfl rfl <| gA <| Zr <| Zw (.inl rfl) Tryz.results51 rfl [] (by decide) ?_
    refine ⟨congrArg Value.bool (Eq.symm ?_), rfl⟩
    unfold litF
    rw [h17, Bool.true_and]
  refine gm rfl rfl <| Zi rfl rfl rfl <| Zi rfl rfl rfl <| Zi rfl rfl rfl <| Zi rfl rfl rfl <| Zi rfl rfl rfl <| gr rfl (Zm rfl rfl) <| gas rfl rfl <| gA <| Zr <| Zw (.inl rfl) Tryz.results51 rfl [] (by decide) ?_
  refine ⟨congrArg Value.bool (Eq.symm ?_), rfl⟩
  unfold litF
  rw [h17]
  rfl
theorem Lit_okP (q : SS) (V : Yl) (n : Nat) (s : Org) (s0 : RS) (hq : PSt s q V n s0.1 s0.2 ∨ q.Stop) (S : List Nat) (w0 : World) (hown : Own w0 S w0 q.hl) (hn : n + 100 < 1000000) (bp : Nat) (hP : PsIn s bp q.bs w0 S) (ss cs : List Int) (a1 a2 : Option Addr) (c1 c2 : Nat) (hl1 : ss.length ≤ 140737488355328) (hl2 : cs.length ≤ 140737488355328) (h1 : OldSl w0 S a1 ss.length 1 (ss.map Xd)) (h2 : OldSl w0 S a2 cs.length 1 (cs.map Xd)) : Sp Tryz.prog 18 [.pointer (some ⟨bp, 0, none⟩), .agg #[.slice a1 ss.length c1, .slice a2 cs.length c2]] w0 S (fun v L => ∃ (e : Int) (l : List Pis) (r : Option Nat) (c : Nat), v = .tuple #[.slice (rowA r) l.length c, .int .i64 e] ∧ L = .row 23 3 r l.length c (l.flatMap Pis.cells) :: q.hl ∧ LitIs s q s0 ss cs e l) := by
  refine ZC Tryz.func18 rfl Tryz.ntmps18 rfl hown ?_
  simp only [ZS]
  refine Zb <| Za <| Zs (Yb rfl rfl rfl (fun b2 => ?_))
  refine Zs (Yb rfl rfl rfl (fun b3 => ?_))
  refine gas rfl rfl <| gas rfl rfl <| gA <| Zb <| Zb <| Za <| gr rfl (Zj Tryz.underlying36 rfl rfl (by exact Zo 1 rfl rfl)) ?_
  refine Zs (ZF rfl (vf := []) (vc := []) rfl rfl Tryz.call43 (fun w1 ho => Zjj bp true w1 (by have h9 := (hP.at ho).p 0 _ rfl; exact h9)) ?_)
  rintro _ _ ⟨rfl, rfl⟩
  refine gA <| Zn rfl <| Zu <| Zf <| Zb <| Zb <| Zcb [_, _] q.hl [0, 1] true 6 rfl rfl <| Zd 0 rfl rfl (Yx 0 rfl) (Zh (Zj Tryz.underlying36 rfl rfl (by exact Zo 1 rfl rfl))) ?_
  refine Zd 1 rfl rfl (Yx 0 rfl) (Zh (Zv Tryz.underlying26 rfl Z6 rfl (by exact ZG 0 (off := 0) (k := 2) rfl rfl) rfl)) ?_
  refine Zd 2 rfl rfl (Yx 0 rfl) (YR (vf := []) (vc := []) rfl rfl Tryz.call45 (fun w1 ho => Vs s bp q.bs w1 (hP.at ho) ss cs a1 a2 c1 c2 hl1 hl2 (h1.at ho) (h2.at ho)) (by rintro _ _ ⟨h, _⟩; exact h)) ?_
  refine Zd 3 rfl rfl (Yx 0 rfl) (Zh (Zj Tryz.underlying36 rfl rfl (by exact Zo 1 rfl rfl))) ?_
  refine Zd 6 rfl rfl (Yx 0 rfl) (Zh (Zq rfl)) ?_
  refine ZL 4 rfl (.inr (Yx 0 rfl)) (Yt [_, _] q.hl rfl rfl (vf := []) (vc := []) rfl rfl Tryz.call46 rfl (fun w how hc => Zm7 q (hq.imp (fun h => ⟨V, n, h.ok⟩) id) _ w hc s bp (hP.out (A := [_, _]) how)) ?_)
  rintro _ _ ⟨rfl, rfl⟩
  refine Zd 5 rfl rfl (Yx 0 rfl) (Zh (ZO rfl (fun _ => Zmf _ _))) ?_
  refine ZR (.inr (Yx 0 rfl)) ?_
  refine Zf <| ZD <| ZY (ι := Nat) [(2, _), (3, _), (15, _)] (_ :: _ :: q.hl) (fun k => k ≤ 2 ∧ ∀ j, j < k → [Y8 s.ss.length s.cs.length ss cs, q.err].getD j 0 = 0) (fun k Fr0 => ((16, natV k) :: Fr0)) (fun k Fr0 => Fr0) (fun k => 2 - k) 0 (⟨Nat.zero_le _, fun j h => absurd h (Nat.not_lt_zero j)⟩) ⟨rfl, rfl, rfl, rfl, trivial⟩ (Yx 0 rfl) ?_
  rintro k ⟨hk, hall⟩
  refine Zb <| Za <| gr rfl (Z1 rfl rfl) (Zx (fun hlt => ?_) (fun hlt => ?_))
  · refine gA <| Zb <| Zl rfl <| Zu <| Zf <| Zb <| ZD <| Zb <| Za <| gr rfl (JS Tryz.underlying125 Tryz.underlying37 ty_37 rfl rfl (by omega) (arr2 _ _ (by omega))) ?_
    refine gas rfl rfl <| gA <| Zb <| Za <| gm rfl rfl <| gr rfl (ZV rfl rfl) (Zx (fun hne => ?_) (fun hne => ?_))
    · refine gA <| Zl rfl <| Zb <| Xq 23 3 <| Za <| gm rfl rfl <| gas rfl rfl <| gas rfl rfl <| gA <| Zr <| Zy <| Zg <| Zg <| Zy <| Zg <| XH (.inl rfl) Tryz.results18 rfl rfl (ZU (A := [_]) (B := [_, _, _]) (T := q.hl) [0] 3 (by decide) (by decide) rfl rfl) ?_
      have hz := Zbh hall hne
      exact ⟨_, [], none, 0, rfl, rfl, .inl ⟨by rw [hz]; exact hne, by rw [hz], rfl⟩⟩
    refine gA <| Zn rfl <| Zu <| ZI <| Zf <| Za <| gr rfl (by exact ZK (b := 1) rfl rfl (by omega)) ?_
    refine gm rfl rfl <| ZM <| Zf ?_
    exact ZT (k + 1) ⟨⟨by omega, fun j hj => by
      rcases Nat.lt_or_eq_of_le (Nat.le_of_lt_succ hj) with h | rfl
      · exact hall j h
      · omega⟩, by omega⟩ ⟨rfl, rfl, rfl, rfl, trivial⟩ (Yx 0 rfl)
  refine gA <| Zb <| Zn rfl <| Z2 <| Zt <| Zt <| ZE <| Zf <| Zb ?_
  have hz := Jj (l := [Y8 s.ss.length s.cs.length ss cs, q.err]) (fun j hj => hall j (by simp at hj; omega))
  have hr0 : Y8 s.ss.length s.cs.length ss cs = 0 := hall 0 (by omega)
  have hq0 : q.err = 0 := hall 1 (by omega)
  have hst := hq.resolve_right (fun h => h.no hq0)
  obtain ⟨r, rfl, rfl, hr⟩ := Zdt hr0
  rw [Z9] at h1 h2
  rw [Xc] at h1 h2
  rw [Z9, Z9]
  refine Za <| gr rfl (Zj Tryz.underlying36 rfl rfl (by exact Zo 1 rfl rfl)) ?_
  refine gr rfl (WF (fs := []) (cs := [.tmp 2, .tmp 3]) rfl rfl) <| Zs (Yt [_, _] q.hl rfl rfl (vf := []) (vc := []) rfl rfl Tryz.call49 rfl (fun w how hc => Zm9 q V n hst.ok s bp _ w hc (hP.out (A := [_, _]) how) (litF s r) (fun x r hx hk => hst.rg hx hk) 51 [.pointer (some ⟨b2, 0, none⟩), .pointer (some ⟨b3, 0, none⟩)] Tryz.call51 (fun x k r5 c5 r6 c6 w9 l9 ho9 _ hk h8 h9 => lit1_ok s bp q.bs w9 ((hP.out (A := [_, _]) how).at ho9) x k r hk hr _ _ a1 a2 c5 c6 c1 c2 h8 h9 ((slOutW how h1 (by decide) []).at ho9) ((slOutW how h2 (by decide) []).at ho9) b2 b3 (ho9.cellOld (how.blkCell 1 rfl rfl) (how.blkOutT 1 rfl)) ((how.blkCells 0 rfl).atS ho9 (how.blkOutT 0 rfl)))) ?_)
  rintro _ _ ⟨rO, cO, rfl, rfl⟩
  rw [hst.listed]
  refine gas rfl rfl <| gas rfl rfl <| gA <| Zr <| XH (.inl rfl) Tryz.results18 rfl rfl (Yx 2 rfl) ?_
  exact ⟨0, _, rO, cO, rfl, rfl, .inr ⟨hz, rfl, r, rfl, rfl, hr, rfl⟩⟩
namespace Ip
def Done (s : Org) (q : SS) (n : Nat) (t : RS) (e : Int) (v : Value) (T : List HL) : Prop := ∃ (q2 : SS) (V2 : Yl), T = q2.hl ∧ q.Like q2 ∧ PSt s q2 V2 n t.1 t.2 ∧ v = .int .i64 e
def Broke (s : Org) (q : SS) (n : Nat) (t1 t2 : RS) (v : Value) (T : List HL) : Prop := v = .int .i64 9 ∧ q.f.left ≠ -1 ∧ ∃ (q2 : SS) (V1 V2 : Yl), T = q2.hl ∧ q.Like q2 ∧ q2.Torn n V1 V2 ∧ PR s.ds.length s.ss.length s.cs.length V1 t1.1 t1.2 ∧ PR s.ds.length s.ss.length s.cs.length V2 t2.1 t2.2
section
variable {s : Org} {q : SS} {V : Yl} {n : Nat} {t : RS} {x : Pis} {ss cs : List Int} {v : Value} {T : List HL}
theorem put_conv (h : PSt s q V n t.1 t.2) (hx : pnE s.ds.length x = 0) {vs : List Nat} {t2 : RS} (hpr : PR s.ds.length s.ss.length s.cs.length (Zbv V (keyN x) (q.num + 1) vs) t2.1 t2.2) (hR : PutR q V n (keyN x) vs v T) :
    (Zec q.cap t.1 x ∧ v = .int .i64 5 ∧ T = q.hl) ∨ (¬ Zec q.cap t.1 x ∧ (Done s q (n + 1) t2 0 v T ∨ Broke s q (n + 1) t t2 v T)) := by
  have hf := h.full hx
  rcases hR with ⟨h1, rfl, rfl⟩ | ⟨h1, q2, rfl, hq2, hlk, rfl⟩ | ⟨h1, q2, rfl, hl, hq2, hlk, rfl⟩
  · exact .inl ⟨hf.1 h1, rfl, rfl⟩
  · exact .inr ⟨fun h2 => h1 (hf.2 h2), .inl ⟨q2, _, rfl, hlk, ⟨hq2, hpr⟩, rfl⟩⟩
  · exact .inr ⟨fun h2 => h1 (hf.2 h2), .inr ⟨rfl, hl, q2, _, _, rfl, hlk, hq2, h.pr, hpr⟩⟩
theorem Done.same (h : PSt s q V n t.1 t.2) {m : Nat} (hm : n ≤ m) {e : Int} : Done s q m t e (.int .i64 e) q.hl := ⟨q, V, rfl, SS.Like.refl q, h.mono hm, rfl⟩
theorem set_conv (h : PSt s q V n t.1 t.2) (hR : SetR s q V n x ss cs v T) :
    Done s q (n + 1) (W1 s q.cap t x ss cs).1 (W1 s q.cap t x ss cs).2 v T ∨ ((W1 s q.cap t x ss cs).2 = 0 ∧ Broke s q (n + 1) t (W1 s q.cap t x ss cs).1 v T) := by
  have h0 := h.ok.zero
  have hz : XC [pnE s.ds.length x, Y8 s.ss.length s.cs.length ss cs, q.err] = if pnE s.ds.length x ≠ 0 then pnE s.ds.length x else if Y8 s.ss.length s.cs.length ss cs ≠ 0 then Y8 s.ss.length s.cs.length ss cs else 0 := by
    rw [h0]; simp [XC]
  unfold W1
  rcases hR with ⟨h1, rfl, rfl⟩ | ⟨h1, hq, hx, r, rfl, rfl, hr, hput⟩
  · rw [hz] at h1 ⊢
    by_cases hp : pnE s.ds.length x ≠ 0
    · rw [if_pos hp, if_pos hp]
      exact .inl (Done.same h (by omega))
    · rw [if_neg hp] at h1 ⊢
      by_cases hg : Y8 s.ss.length s.cs.length ss cs ≠ 0
      · rw [if_pos hg, if_neg hp, if_pos hg]
        exact .inl (Done.same h (by omega))
      · rw [if_neg hg] at h1; exact absurd rfl h1
  · have hg : Y8 s.ss.length s.cs.length (Ym r.1) (Ym r.2) = 0 := Zdu hr
    rw [if_neg (by omega), if_neg (by omega), VE]
    have hwo := Zby (s := s) x hr
    rcases put_conv h hx (t2 := (Za4 t.1 x, Za3 t.2 x (YG s x r))) (h.pr.set hx hwo (q.num + 1)) hput with ⟨hf, rfl, rfl⟩ | ⟨hf, hd⟩
    · rw [if_pos hf]
      exact .inl (Done.same h (by omega))
    · rw [if_neg hf]
      rcases hd with hd | hd
      · exact .inl hd
      · exact .inr ⟨rfl, hd⟩
theorem Zgo (h : PSt s q V n t.1 t.2) {e : Int} {p : Rg} (hR : Zn9 s q V n x ss cs e p) : e = (Vo s t x ss cs).2 ∧ p = (Vo s t x ss cs).1 := by
  have h0 := h.ok.zero
  have hz : XC [pnE s.ds.length x, Y8 s.ss.length s.cs.length ss cs, q.err] = if pnE s.ds.length x ≠ 0 then pnE s.ds.length x else if Y8 s.ss.length s.cs.length ss cs ≠ 0 then Y8 s.ss.length s.cs.length ss cs else 0 := by
    rw [h0]; simp [XC]
  unfold Vo
  rcases hR with ⟨h1, rfl, rfl⟩ | ⟨h1, hq, hx, r, rfl, rfl, hr, hk⟩
  · rw [hz] at h1 ⊢
    by_cases hp : pnE s.ds.length x ≠ 0
    · rw [if_pos hp, if_pos hp]; exact ⟨rfl, rfl⟩
    · rw [if_neg hp] at h1 ⊢
      by_cases hg : Y8 s.ss.length s.cs.length ss cs ≠ 0
      · rw [if_pos hg, if_neg hp, if_pos hg]; exact ⟨rfl, rfl⟩
      · rw [if_neg hg] at h1; exact absurd rfl h1
  · have hg : Y8 s.ss.length s.cs.length (Ym r.1) (Ym r.2) = 0 := Zdu hr
    rw [if_neg (by omega), if_neg (by omega), VE, ← h.kept hx]
    rcases hk with ⟨hk, rfl, rfl⟩ | ⟨k, hk, rfl, rfl⟩
    · rw [hk]; exact ⟨rfl, rfl⟩
    · rw [hk]; exact ⟨rfl, rfl⟩
theorem lit_conv (h : PSt s q V n t.1 t.2) {e : Int} {l : List Pis} (hR : LitIs s q t ss cs e l) : e = (Zb0 s t ss cs).2 ∧ l = (Zb0 s t ss cs).1 := by
  have h0 := h.ok.zero
  have hz : XC [Y8 s.ss.length s.cs.length ss cs, q.err] = if Y8 s.ss.length s.cs.length ss cs ≠ 0 then Y8 s.ss.length s.cs.length ss cs else 0 := by
    rw [h0]; simp [XC]
  unfold Zb0
  rcases hR with ⟨h1, rfl, rfl⟩ | ⟨h1, rfl, r, rfl, rfl, hr, rfl⟩
  · rw [hz] at h1 ⊢
    by_cases hg : Y8 s.ss.length s.cs.length ss cs ≠ 0
    · rw [if_pos hg, if_pos hg]; exact ⟨rfl, rfl⟩
    · rw [if_neg hg] at h1; exact absurd rfl h1
  · have hg : Y8 s.ss.length s.cs.length (Ym r.1) (Ym r.2) = 0 := Zdu hr
    rw [if_neg (by omega), VE]; exact ⟨rfl, rfl⟩
end
structure Ac where
  what : Nat
  x : Pis
  a1 : Option Addr
  c1 : Nat
  ss : List Int
  a2 : Option Addr
  c2 : Nat
  cs : List Int
  frm : Int
  to : Int
  deriving Inhabited
abbrev Ac.cells (a : Ac) : List Value := [.int .u8 (a.what : Int), .int .i64 a.x.lv, .int .i64 a.x.dv, .int .i64 a.x.nm, .slice a.a1 a.ss.length a.c1, .slice a.a2 a.cs.length a.c2, .int .i64 a.frm, .int .i64 a.to]
abbrev Ac.val (a : Ac) : Value := .agg #[.int .u8 (a.what : Int), .int .i64 a.x.lv, .int .i64 a.x.dv, .int .i64 a.x.nm, .slice a.a1 a.ss.length a.c1, .slice a.a2 a.cs.length a.c2, .int .i64 a.frm, .int .i64 a.to]
structure AcIn (a : Ac) (w : World) (S : List Nat) : Prop where
  s : OldSl w S a.a1 a.ss.length 1 (a.ss.map Xd)
  c : OldSl w S a.a2 a.cs.length 1 (a.cs.map Xd)
structure AcLe (a : Ac) : Prop where
  w : a.what < 256
  s : a.ss.length ≤ 140737488355328
  c : a.cs.length ≤ 140737488355328
theorem AcIn.at {a : Ac} {w0 w : World} {S : List Nat} {l : List HL} (h : AcIn a w0 S) (ho : Own w0 S w l) : AcIn a w [] := ⟨h.s.at ho, h.c.at ho⟩
structure AcsIn (la : Option Addr) (l : List Ac) (w : World) (S : List Nat) : Prop where
  t : OldSl w S la l.length 8 (l.flatMap Ac.cells)
  r : ∀ a ∈ l, AcIn a w S
theorem AcsIn.at {la : Option Addr} {l : List Ac} {w0 w : World} {S : List Nat} {h : List HL} (hi : AcsIn la l w0 S) (ho : Own w0 S w h) : AcsIn la l w [] := ⟨hi.t.at ho, fun a ha => (hi.r a ha).at ho⟩
end Ip
open Ip
theorem Same_ok (xs ys xt yt : List Int) (x1 y1 x2 y2 : Option Addr) (ca cb ca2 cb2 : Nat) (hxl : xs.length ≤ 140737488355328) (hxl2 : xt.length ≤ 140737488355328) (w0 : World) (hx : OldSl w0 [] x1 xs.length 1 (xs.map Xd)) (hx2 : OldSl w0 [] x2 xt.length 1 (xt.map Xd)) (hy : OldSl w0 [] y1 ys.length 1 (ys.map Xd)) (hy2 : OldSl w0 [] y2 yt.length 1 (yt.map Xd)) : Sp Tryz.prog 32 [.agg #[.slice x1 xs.length ca, .slice x2 xt.length ca2], .agg #[.slice y1 ys.length cb, .slice y2 yt.length cb2]] w0 [] (RV (.bool (decide (xs = ys) && decide (xt = yt)))) := by
  refine ZC Tryz.func32 rfl Tryz.ntmps32 rfl (Own.refl _) ?_
  simp only [ZS]
  refine Zb <| Za <| Zs (Yb rfl rfl rfl (fun b2 => ?_))
  refine Zs (Yb rfl rfl rfl (fun b3 => ?_))
  refine gas rfl rfl <| gA <| Zb <| Za <| gr rfl (Zc rfl (Xa _)) <| gr rfl (Zj Tryz.underlying24 rfl rfl (by exact Zo 1 rfl rfl)) ?_
  refine gr rfl (Zc rfl (Xa _)) <| gr rfl (Zj Tryz.underlying24 rfl rfl (by exact Zo 0 rfl rfl)) ?_
  refine Zs (ZF rfl (vf := []) (vc := []) rfl rfl Tryz.call74 (fun w1 ho => Zd9 xs ys x1 y1 ca cb hxl w1 (hx.at ho) (hy.at ho)) ?_)
  rintro _ _ ⟨rfl, rfl⟩
  refine ZW (fun h9 => ?_) (fun h9 => ?_)
  · refine gm rfl rfl <| Ze rfl rfl <| Zk rfl (Zc rfl (Xb _)) <| Ze rfl rfl (Zk rfl (Zj Tryz.underlying24 rfl rfl (by exact Zo 1 rfl rfl)) ?_)
    refine Ze rfl rfl <| Zk rfl (Zc rfl (Xb _)) <| Ze rfl rfl (Zk rfl (Zj Tryz.underlying24 rfl rfl (by exact Zo 0 rfl rfl)) ?_)
    refine Ze rfl rfl (ZF rfl (vf := []) (vc := []) rfl rfl Tryz.call74 (fun w1 ho => Zd9 xt yt x2 y2 ca2 cb2 hxl2 w1 (hx2.at ho) (hy2.at ho)) ?_)
    rintro _ _ ⟨rfl, rfl⟩
    refine gr rfl (Zp rfl rfl) <| gas rfl rfl <| gA <| Zr <| Zw (.inl rfl) Tryz.results32 rfl [] (by decide) ?_
    rw [h9, Bool.true_and]
    exact ⟨rfl, rfl⟩
  refine gm rfl rfl <| Zi rfl rfl rfl <| Zi rfl rfl rfl <| Zi rfl rfl rfl <| Zi rfl rfl rfl <| Zi rfl rfl rfl <| gr rfl (Zm rfl rfl) <| gas rfl rfl <| gA <| Zr <| Zw (.inl rfl) Tryz.results32 rfl [] (by decide) ?_
  rw [h9]
  exact ⟨rfl, rfl⟩
namespace Ip
theorem Zc3 (k w : Rg) (a b a2 b2 : Option Addr) (ca cb ca2 cb2 : Nat) (h1 : k.1.length ≤ 140737488355328) (h2 : k.2.length ≤ 140737488355328) (w0 : World) (hx : OldSl w0 [] a k.1.length 1 (k.1.map natV)) (hx2 : OldSl w0 [] a2 k.2.length 1 (k.2.map natV)) (hy : OldSl w0 [] b w.1.length 1 (w.1.map natV)) (hy2 : OldSl w0 [] b2 w.2.length 1 (w.2.map natV)) : Sp Tryz.prog 32 [.agg #[.slice a k.1.length ca, .slice a2 k.2.length ca2], .agg #[.slice b w.1.length cb, .slice b2 w.2.length cb2]] w0 [] (RV (.bool (decide (k.1 = w.1) && decide (k.2 = w.2)))) := by
  have e := Same_ok (Ym k.1) (Ym w.1) (Ym k.2) (Ym w.2) a b a2 b2 ca cb ca2 cb2 (by rw [Z9]; exact h1) (by rw [Z9]; exact h2) w0 (by rw [Z9, Xc]; exact hx) (by rw [Z9, Xc]; exact hx2) (by rw [Z9, Xc]; exact hy) (by rw [Z9, Xc]; exact hy2)
  rw [Z9, Z9, Z9, Z9] at e
  have e1 : decide (Ym k.1 = Ym w.1) = decide (k.1 = w.1) := by rw [decide_eq_decide]; exact ⟨Zh0, fun h => by rw [h]⟩
  have e2 : decide (Ym k.2 = Ym w.2) = decide (k.2 = w.2) := by rw [decide_eq_decide]; exact ⟨Zh0, fun h => by rw [h]⟩
  rw [e1, e2] at e
  exact e
theorem i3_pis : I3 Tryz.prog 23 (Tryz.prog.fieldsOf 23)[0]! (Tryz.prog.fieldsOf 23)[1]! (Tryz.prog.fieldsOf 23)[2]! .i64 .i64 .i64 := ⟨by kernel_rfl, by kernel_rfl, by kernel_rfl, by kernel_rfl, by kernel_rfl, by kernel_rfl, by kernel_rfl, by kernel_rfl, by kernel_rfl, by kernel_rfl, by kernel_rfl⟩
theorem pis_eq (x y : Pis) : (x.lv = y.lv ∧ x.dv = y.dv ∧ x.nm = y.nm) ↔ x = y := ⟨fun h => Zm2 h.1 h.2.1 h.2.2, fun h => by subst h; exact ⟨rfl, rfl, rfl⟩⟩
end Ip
namespace Ip
end Ip
namespace Ip
theorem fresh_fi {n : Nat} (h4 : 4 ≤ n) (h64 : n ≤ 64) : FI (flNew (List.replicate (256 * n) 255)).b 0 (fun _ => none) ∧ (∃ q, q < (flNew (List.replicate (256 * n) 255)).b.length / 256 ∧ VV (flNew (List.replicate (256 * n) 255)).b q) := by
  have hF := Zhq h4 h64
  have hl := hF.len
  have hall : ∀ z ∈ (flNew (List.replicate (256 * n) 255)).b, z = 255 := fun z hz => List.eq_of_mem_replicate hz
  refine ⟨fi_new hall (by rw [hl]; omega) (by rw [hl]; omega), 0, by rw [hl]; omega, Zge (fun z hz => by rw [hall z hz]; decide) fun i hi => ?_⟩
  exact hall _ (Zmz (by rw [hl]; omega))
structure SS.New (q : SS) (n : Nat) : Prop where
  ok : q.Ok (fun _ => none) 1
  len : q.f.b.length = 256 * n
  left : q.f.left = -1
  st : q.f.st = 1
  m0 : q.m.length = 0
end Ip
theorem Zlw (n : Nat) (hn4 : 4 ≤ n) (hn64 : n ≤ 64) (w0 : World) : Sp Tryz.prog 11 [natV n] w0 [] (fun v L => ∃ q : SS, v = .tuple #[.pointer (some ⟨q.bf, 0, none⟩), .pointer (some ⟨q.bs, 0, none⟩)] ∧ q.New n ∧ L = q.hl) := by
  refine ZC Tryz.func11 rfl Tryz.ntmps11 rfl (Own.refl _) ?_
  simp only [ZS]
  refine Zb <| Za <| gas rfl rfl <| gas rfl rfl <| gA <| Zb <| Za <| gm rfl rfl <| Zs (ZF rfl (vf := []) (vc := []) rfl rfl Tryz.call34 (fun w1 ho => New_ok n hn4 hn64 w1) ?_)
  rintro _ _ ⟨bf, rb, cb, rfl, rfl⟩
  refine gm rfl rfl <| gr rfl (ZA rfl rfl) <| gr rfl (ZA rfl rfl) <| gas rfl rfl <| gas rfl rfl <| gA <| Zb <| Za <| gr rfl (Zq rfl) ?_
  obtain ⟨hfi, hsp⟩ := fresh_fi hn4 hn64
  have hF := Zhq hn4 hn64
  refine Zs (Yj [0, 1, 2] [] rfl (vf := []) (vc := []) rfl rfl Tryz.call28 (by decide) rfl (fun w how hc => OpenG_ok _ hF.ok bf rb cb none 0 0 _ hfi hsp (Zhy _) _ w hc (show (0 : Nat) + 1 < 4611686018427387904 by decide) (by rw [hF.er]; decide) hF.dn) ?_)
  rintro _ _ (⟨bs, bm, m, nb, T, num, f2, bk, rfl, hg, rfl⟩ | ⟨f2, rfl, hT, rfl⟩)
  · refine JQ [] (SS.mk f2 bs bf rb cb none 0 1 bm num bk m nb T).hl [] <| gm rfl rfl <| gr rfl (ZA rfl rfl) <| gr rfl (ZA rfl rfl) <| gas rfl rfl <| gas rfl rfl <| gA <| Zb <| Zb <| Za <| gm rfl rfl <| gr rfl (ZV rfl rfl) (Zx (fun h19 => ?_) (fun h19 => ?_))
    · exact absurd rfl h19
    refine gm rfl rfl <| Ze rfl rfl <| Zk rfl (Zq rfl) <| Ze rfl rfl (Zk rfl (ZV rfl rfl) (Zx (fun h22 => ?_) (fun h22 => ?_)))
    · exact absurd rfl h22
    refine gr rfl (Zm rfl rfl) <| gA <| Zn rfl <| Zu <| Zf <| Zb <| Za <| gm rfl rfl <| gm rfl rfl <| gas rfl rfl <| gas rfl rfl <| gA <| Zr <| XH (.inl rfl) Tryz.results11 rfl rfl (ZU (A := []) (B := []) (T := (SS.mk f2 bs bf rb cb none 0 1 bm num bk m nb T).hl) [] 0 (by decide) (by decide) rfl rfl) ?_
    refine ⟨SS.mk f2 bs bf rb cb none 0 1 bm num bk m nb T, rfl, ⟨⟨hg.st, ?_, ?_, ?_⟩, ?_, ?_, ?_, ?_⟩, rfl⟩
    · show f2.pr ≤ 100000 * 1
      rw [hg.pr, hF.pr]; decide
    · show f2.er ≤ 1
      have := hg.er
      rw [hF.er] at this; exact this
    · show num ≤ 1
      have := hg.num; omega
    · show f2.b.length = 256 * n
      rw [hg.len]; exact hF.len
    · exact hg.no hF.left
    · show f2.st = 1
      rw [hg.hst]; rfl
    · have := Zhy 0 _ _ _ _ hg.st.si
      simpa [plain] using this
  exact absurd hF.left hT.no
end Go.Proofs.YthcbcdjkfefnlaaGreatDoor
namespace Go.Proofs.YthcbcdjkfefnlaaGreatDoor
open Go.Gv
open Go.RowKit
open Go.Sn hiding En keysP keysP_len stop_ok
open Go.Ps
open Iv Sx Ip
open Go.Deep Go.ChangeShapes Go.WideShapes
namespace Ip
theorem len5 {cs : List Value} (h : cs.length = 5) : ∃ a b c d e, cs = [a, b, c, d, e] := by
  match cs, h with
  | [a, b, c, d, e], _ => exact ⟨a, b, c, d, e, rfl⟩
theorem len8 {cs : List Value} (h : cs.length = 8) : ∃ a b c d e f g i, cs = [a, b, c, d, e, f, g, i] := by
  match cs, h with
  | [a, b, c, d, e, f, g, i], _ => exact ⟨a, b, c, d, e, f, g, i, rfl⟩
section
variable {H : Type} {enc : TypeId × Value → H} {W : World} {base : Nat} {sp : Nat → Bool} {held : Bool}
theorem Zlx {n : Nat} {u v : Value} {x : DataW H × List MemPlace} (h : DataW.trod enc Tryz.prog W base sp held n 94 [u, v] = some x) (hw : ∀ b ∈ x.1.weights Tryz.prog 94, b ≤ reachBytes) : ∃ p q : Int, [u, v] = [.int .i64 p, .int .i64 q] := by
  obtain ⟨k, hl, hf⟩ := fld Tryz.underlying94 h hw
  obtain ⟨y0, t0, _⟩ := hf 0 _ 1 rfl (by kernel_rfl)
  obtain ⟨y1, t1, _⟩ := hf 1 _ 1 rfl (by kernel_rfl)
  obtain ⟨p, rfl⟩ := Vv Tryz.underlying3 (show DataW.trod enc Tryz.prog W base sp held k 3 [u] = some y0 from t0)
  obtain ⟨q, rfl⟩ := Vv Tryz.underlying3 (show DataW.trod enc Tryz.prog W base sp held k 3 [v] = some y1 from t1)
  exact ⟨p, q, rfl⟩
theorem openDv {n : Nat} {cs : List Value} {x : DataW H × List MemPlace} (h : DataW.trod enc Tryz.prog W base sp held n 109 cs = some x) (hw : ∀ b ∈ x.1.weights Tryz.prog 109, b ≤ reachBytes) : ∃ g : Dv, cs = g.cells ∧ g.name.size ≤ 140737488355328 := by
  obtain ⟨k, hl, hf⟩ := fld Tryz.underlying109 h hw
  rw [show Tryz.prog.cellsOf 109 = 3 by kernel_rfl] at hl
  obtain ⟨u0, u1, u2, rfl⟩ := len3 hl
  obtain ⟨y0, t0, w0⟩ := hf 0 _ 1 rfl (by kernel_rfl)
  replace t0 : DataW.trod enc Tryz.prog W base sp held k 9 [u0] = some y0 := t0
  obtain ⟨z0, rfl, b0⟩ := leafS Tryz.underlying9 t0 w0
  obtain ⟨y1, t1, w1⟩ := hf 1 _ 1 rfl (by kernel_rfl)
  replace t1 : DataW.trod enc Tryz.prog W base sp held k 3 [u1] = some y1 := t1
  obtain ⟨z1, rfl⟩ := Vv Tryz.underlying3 t1
  obtain ⟨y2, t2, w2⟩ := hf 2 _ 1 rfl (by kernel_rfl)
  replace t2 : DataW.trod enc Tryz.prog W base sp held k 3 [u2] = some y2 := t2
  obtain ⟨z2, rfl⟩ := Vv Tryz.underlying3 t2
  exact ⟨⟨z0, z1, z2⟩, rfl, b0⟩
theorem openRk {n : Nat} {cs : List Value} {x : DataW H × List MemPlace} (h : DataW.trod enc Tryz.prog W base sp held n 111 cs = some x) (hw : ∀ b ∈ x.1.weights Tryz.prog 111, b ≤ reachBytes) : ∃ g : Rk, cs = g.cells ∧ g.name.size ≤ 140737488355328 := by
  obtain ⟨k, hl, hf⟩ := fld Tryz.underlying111 h hw
  rw [show Tryz.prog.cellsOf 111 = 6 by kernel_rfl] at hl
  obtain ⟨u0, u1, u2, u3, u4, u5, rfl⟩ := len6 hl
  obtain ⟨y0, t0, w0⟩ := hf 0 _ 1 rfl (by kernel_rfl)
  replace t0 : DataW.trod enc Tryz.prog W base sp held k 9 [u0] = some y0 := t0
  obtain ⟨z0, rfl, b0⟩ := leafS Tryz.underlying9 t0 w0
  obtain ⟨y1, t1, w1⟩ := hf 1 _ 1 rfl (by kernel_rfl)
  replace t1 : DataW.trod enc Tryz.prog W base sp held k 3 [u1] = some y1 := t1
  obtain ⟨z1, rfl⟩ := Vv Tryz.underlying3 t1
  obtain ⟨y2, t2, w2⟩ := hf 2 _ 2 rfl (by kernel_rfl)
  replace t2 : DataW.trod enc Tryz.prog W base sp held k 94 [u2, u3] = some y2 := t2
  obtain ⟨p2, q2, e2⟩ := Zlx t2 w2
  simp only [List.cons.injEq, and_true] at e2
  obtain ⟨rfl, rfl⟩ := e2
  obtain ⟨y3, t3, w3⟩ := hf 3 _ 1 rfl (by kernel_rfl)
  replace t3 : DataW.trod enc Tryz.prog W base sp held k 3 [u4] = some y3 := t3
  obtain ⟨z3, rfl⟩ := Vv Tryz.underlying3 t3
  obtain ⟨y4, t4, w4⟩ := hf 4 _ 1 rfl (by kernel_rfl)
  replace t4 : DataW.trod enc Tryz.prog W base sp held k 3 [u5] = some y4 := t4
  obtain ⟨z4, rfl⟩ := Vv Tryz.underlying3 t4
  exact ⟨⟨z0, z1, p2, q2, z3, z4⟩, rfl, b0⟩
theorem openPt {n : Nat} {cs : List Value} {x : DataW H × List MemPlace} (h : DataW.trod enc Tryz.prog W base sp held n 96 cs = some x) (hw : ∀ b ∈ x.1.weights Tryz.prog 96, b ≤ reachBytes) : ∃ g : Pt, cs = g.cells ∧ True := by
  obtain ⟨k, hl, hf⟩ := fld Tryz.underlying96 h hw
  rw [show Tryz.prog.cellsOf 96 = 4 by kernel_rfl] at hl
  obtain ⟨u0, u1, u2, u3, rfl⟩ := len4 hl
  obtain ⟨y0, t0, w0⟩ := hf 0 _ 1 rfl (by kernel_rfl)
  replace t0 : DataW.trod enc Tryz.prog W base sp held k 3 [u0] = some y0 := t0
  obtain ⟨z0, rfl⟩ := Vv Tryz.underlying3 t0
  obtain ⟨y1, t1, w1⟩ := hf 1 _ 1 rfl (by kernel_rfl)
  replace t1 : DataW.trod enc Tryz.prog W base sp held k 3 [u1] = some y1 := t1
  obtain ⟨z1, rfl⟩ := Vv Tryz.underlying3 t1
  obtain ⟨y2, t2, w2⟩ := hf 2 _ 1 rfl (by kernel_rfl)
  replace t2 : DataW.trod enc Tryz.prog W base sp held k 3 [u2] = some y2 := t2
  obtain ⟨z2, rfl⟩ := Vv Tryz.underlying3 t2
  obtain ⟨y3, t3, w3⟩ := hf 3 _ 1 rfl (by kernel_rfl)
  replace t3 : DataW.trod enc Tryz.prog W base sp held k 3 [u3] = some y3 := t3
  obtain ⟨z3, rfl⟩ := Vv Tryz.underlying3 t3
  exact ⟨⟨z0, z1, z2, z3⟩, rfl, trivial⟩
theorem openPts {n : Nat} {cs : List Value} {x : DataW H × List MemPlace} (h : DataW.trod enc Tryz.prog W base sp held n 97 cs = some x) (hw : ∀ b ∈ x.1.weights Tryz.prog 97, b ≤ reachBytes) :
    ∃ (a : Option Addr) (gs : List Pt) (cp : Nat), cs = [.slice a gs.length cp] ∧ OldSl W [] a gs.length 4 (gs.flatMap Pt.cells) ∧ gs.length ≤ 140737488355328 ∧ gs.length ≤ cp ∧ ∀ g ∈ gs, (fun _ => True) g :=
  Zbg Pt.cells (fun _ => True) 4 97 96 32 (fun _ => rfl) (by decide) Tryz.underlying97 (by kernel_rfl) (by kernel_rfl) (by decide) (fun n cs x h hw => openPt h hw) h hw
def StG (W : World) (g : St) : Prop := g.name.size ≤ 140737488355328 ∧ OldSl W [] g.pa g.ps.length 4 (g.ps.flatMap Pt.cells) ∧ g.ps.length ≤ 140737488355328 ∧ g.ps.length ≤ g.pc
theorem openSt {n : Nat} {cs : List Value} {x : DataW H × List MemPlace} (h : DataW.trod enc Tryz.prog W base sp held n 99 cs = some x) (hw : ∀ b ∈ x.1.weights Tryz.prog 99, b ≤ reachBytes) : ∃ g : St, cs = g.cells ∧ StG W g := by
  obtain ⟨k, hl, hf⟩ := fld Tryz.underlying99 h hw
  rw [show Tryz.prog.cellsOf 99 = 5 by kernel_rfl] at hl
  obtain ⟨u0, u1, u2, u3, u4, rfl⟩ := len5 hl
  obtain ⟨y0, t0, w0⟩ := hf 0 _ 1 rfl (by kernel_rfl)
  replace t0 : DataW.trod enc Tryz.prog W base sp held k 9 [u0] = some y0 := t0
  obtain ⟨z0, rfl, b0⟩ := leafS Tryz.underlying9 t0 w0
  obtain ⟨y1, t1, w1⟩ := hf 1 _ 1 rfl (by kernel_rfl)
  replace t1 : DataW.trod enc Tryz.prog W base sp held k 3 [u1] = some y1 := t1
  obtain ⟨z1, rfl⟩ := Vv Tryz.underlying3 t1
  obtain ⟨y2, t2, w2⟩ := hf 2 _ 2 rfl (by kernel_rfl)
  replace t2 : DataW.trod enc Tryz.prog W base sp held k 94 [u2, u3] = some y2 := t2
  obtain ⟨p2, q2, e2⟩ := Zlx t2 w2
  simp only [List.cons.injEq, and_true] at e2
  obtain ⟨rfl, rfl⟩ := e2
  obtain ⟨y3, t3, w3⟩ := hf 3 _ 1 rfl (by kernel_rfl)
  replace t3 : DataW.trod enc Tryz.prog W base sp held k 97 [u4] = some y3 := t3
  obtain ⟨a3, l3, c3, e3, s3, m3, o3, g3⟩ := openPts t3 w3
  simp only [List.cons.injEq, and_true] at e3
  subst e3
  exact ⟨⟨z0, z1, p2, q2, a3, c3, l3⟩, rfl, b0, s3, m3, o3⟩
theorem openCp {n : Nat} {cs : List Value} {x : DataW H × List MemPlace} (h : DataW.trod enc Tryz.prog W base sp held n 113 cs = some x) (hw : ∀ b ∈ x.1.weights Tryz.prog 113, b ≤ reachBytes) : ∃ g : Cp, cs = g.cells ∧ g.name.size ≤ 140737488355328 := by
  obtain ⟨k, hl, hf⟩ := fld Tryz.underlying113 h hw
  rw [show Tryz.prog.cellsOf 113 = 6 by kernel_rfl] at hl
  obtain ⟨u0, u1, u2, u3, u4, u5, rfl⟩ := len6 hl
  obtain ⟨y0, t0, w0⟩ := hf 0 _ 1 rfl (by kernel_rfl)
  replace t0 : DataW.trod enc Tryz.prog W base sp held k 9 [u0] = some y0 := t0
  obtain ⟨z0, rfl, b0⟩ := leafS Tryz.underlying9 t0 w0
  obtain ⟨y1, t1, w1⟩ := hf 1 _ 1 rfl (by kernel_rfl)
  replace t1 : DataW.trod enc Tryz.prog W base sp held k 3 [u1] = some y1 := t1
  obtain ⟨z1, rfl⟩ := Vv Tryz.underlying3 t1
  obtain ⟨y2, t2, w2⟩ := hf 2 _ 1 rfl (by kernel_rfl)
  replace t2 : DataW.trod enc Tryz.prog W base sp held k 3 [u2] = some y2 := t2
  obtain ⟨z2, rfl⟩ := Vv Tryz.underlying3 t2
  obtain ⟨y3, t3, w3⟩ := hf 3 _ 1 rfl (by kernel_rfl)
  replace t3 : DataW.trod enc Tryz.prog W base sp held k 3 [u3] = some y3 := t3
  obtain ⟨z3, rfl⟩ := Vv Tryz.underlying3 t3
  obtain ⟨y4, t4, w4⟩ := hf 4 _ 1 rfl (by kernel_rfl)
  replace t4 : DataW.trod enc Tryz.prog W base sp held k 3 [u4] = some y4 := t4
  obtain ⟨z4, rfl⟩ := Vv Tryz.underlying3 t4
  obtain ⟨y5, t5, w5⟩ := hf 5 _ 1 rfl (by kernel_rfl)
  replace t5 : DataW.trod enc Tryz.prog W base sp held k 4 [u5] = some y5 := t5
  obtain ⟨z5, rfl⟩ := leafB Tryz.underlying4 t5
  exact ⟨⟨z0, z1, z2, z3, z4, z5⟩, rfl, b0⟩
theorem openDvs {n : Nat} {cs : List Value} {x : DataW H × List MemPlace} (h : DataW.trod enc Tryz.prog W base sp held n 40 cs = some x) (hw : ∀ b ∈ x.1.weights Tryz.prog 40, b ≤ reachBytes) :
    ∃ (a : Option Addr) (gs : List Dv) (cp : Nat), cs = [.slice a gs.length cp] ∧ OldSl W [] a gs.length 3 (gs.flatMap Dv.cells) ∧ gs.length ≤ 140737488355328 ∧ gs.length ≤ cp ∧ ∀ g ∈ gs, (fun g : Dv => g.name.size ≤ 140737488355328) g :=
  Zbg Dv.cells (fun g : Dv => g.name.size ≤ 140737488355328) 3 40 109 32 (fun _ => rfl) (by decide) Tryz.underlying40 (by kernel_rfl) (by kernel_rfl) (by decide) (fun n cs x h hw => openDv h hw) h hw
theorem openRks {n : Nat} {cs : List Value} {x : DataW H × List MemPlace} (h : DataW.trod enc Tryz.prog W base sp held n 41 cs = some x) (hw : ∀ b ∈ x.1.weights Tryz.prog 41, b ≤ reachBytes) :
    ∃ (a : Option Addr) (gs : List Rk) (cp : Nat), cs = [.slice a gs.length cp] ∧ OldSl W [] a gs.length 6 (gs.flatMap Rk.cells) ∧ gs.length ≤ 140737488355328 ∧ gs.length ≤ cp ∧ ∀ g ∈ gs, (fun g : Rk => g.name.size ≤ 140737488355328) g :=
  Zbg Rk.cells (fun g : Rk => g.name.size ≤ 140737488355328) 6 41 111 56 (fun _ => rfl) (by decide) Tryz.underlying41 (by kernel_rfl) (by kernel_rfl) (by decide) (fun n cs x h hw => openRk h hw) h hw
theorem openSts {n : Nat} {cs : List Value} {x : DataW H × List MemPlace} (h : DataW.trod enc Tryz.prog W base sp held n 42 cs = some x) (hw : ∀ b ∈ x.1.weights Tryz.prog 42, b ≤ reachBytes) :
    ∃ (a : Option Addr) (gs : List St) (cp : Nat), cs = [.slice a gs.length cp] ∧ OldSl W [] a gs.length 5 (gs.flatMap St.cells) ∧ gs.length ≤ 140737488355328 ∧ gs.length ≤ cp ∧ ∀ g ∈ gs, (StG W) g :=
  Zbg St.cells (StG W) 5 42 99 64 (fun _ => rfl) (by decide) Tryz.underlying42 (by kernel_rfl) (by kernel_rfl) (by decide) (fun n cs x h hw => openSt h hw) h hw
theorem openCps {n : Nat} {cs : List Value} {x : DataW H × List MemPlace} (h : DataW.trod enc Tryz.prog W base sp held n 43 cs = some x) (hw : ∀ b ∈ x.1.weights Tryz.prog 43, b ≤ reachBytes) :
    ∃ (a : Option Addr) (gs : List Cp) (cp : Nat), cs = [.slice a gs.length cp] ∧ OldSl W [] a gs.length 6 (gs.flatMap Cp.cells) ∧ gs.length ≤ 140737488355328 ∧ gs.length ≤ cp ∧ ∀ g ∈ gs, (fun g : Cp => g.name.size ≤ 140737488355328) g :=
  Zbg Cp.cells (fun g : Cp => g.name.size ≤ 140737488355328) 6 43 113 56 (fun _ => rfl) (by decide) Tryz.underlying43 (by kernel_rfl) (by kernel_rfl) (by decide) (fun n cs x h hw => openCp h hw) h hw
theorem openOrg {n : Nat} {cs : List Value} {x : DataW H × List MemPlace} (h : DataW.trod enc Tryz.prog W base sp held n 45 cs = some x) (hw : ∀ b ∈ x.1.weights Tryz.prog 45, b ≤ reachBytes) : ∃ g : Org, cs = g.cells ∧ OrgIn g W [] ∧ OrgLe g := by
  obtain ⟨k, hl, hf⟩ := fld Tryz.underlying45 h hw
  rw [show Tryz.prog.cellsOf 45 = 4 by kernel_rfl] at hl
  obtain ⟨u0, u1, u2, u3, rfl⟩ := len4 hl
  obtain ⟨y0, t0, w0⟩ := hf 0 _ 1 rfl (by kernel_rfl)
  replace t0 : DataW.trod enc Tryz.prog W base sp held k 40 [u0] = some y0 := t0
  obtain ⟨a0, l0, c0, e0, s0, m0, o0, g0⟩ := openDvs t0 w0
  simp only [List.cons.injEq, and_true] at e0
  subst e0
  obtain ⟨y1, t1, w1⟩ := hf 1 _ 1 rfl (by kernel_rfl)
  replace t1 : DataW.trod enc Tryz.prog W base sp held k 41 [u1] = some y1 := t1
  obtain ⟨a1, l1, c1, e1, s1, m1, o1, g1⟩ := openRks t1 w1
  simp only [List.cons.injEq, and_true] at e1
  subst e1
  obtain ⟨y2, t2, w2⟩ := hf 2 _ 1 rfl (by kernel_rfl)
  replace t2 : DataW.trod enc Tryz.prog W base sp held k 42 [u2] = some y2 := t2
  obtain ⟨a2, l2, c2, e2, s2, m2, o2, g2⟩ := openSts t2 w2
  simp only [List.cons.injEq, and_true] at e2
  subst e2
  obtain ⟨y3, t3, w3⟩ := hf 3 _ 1 rfl (by kernel_rfl)
  replace t3 : DataW.trod enc Tryz.prog W base sp held k 43 [u3] = some y3 := t3
  obtain ⟨a3, l3, c3, e3, s3, m3, o3, g3⟩ := openCps t3 w3
  simp only [List.cons.injEq, and_true] at e3
  subst e3
  exact ⟨⟨a0, c0, l0, a1, c1, l1, a2, c2, l2, a3, c3, l3⟩, rfl, ⟨s0, s1, s2, s3, fun x hx => (g2 x hx).2.1⟩, ⟨m0, m1, m2, m3, fun x hx => (g2 x hx).2.2.1, fun x hx => (g2 x hx).2.2.2, g0, g1, fun x hx => (g2 x hx).1, g3⟩⟩
theorem Zie {n : Nat} {cs : List Value} {x : DataW H × List MemPlace} (h : DataW.trod enc Tryz.prog W base sp held n 24 cs = some x) (hw : ∀ b ∈ x.1.weights Tryz.prog 24, b ≤ reachBytes) :
    ∃ (a : Option Addr) (gs : List Int) (cp : Nat), cs = [.slice a gs.length cp] ∧ OldSl W [] a gs.length 1 (gs.flatMap (fun z : Int => [Xd z])) ∧ gs.length ≤ 140737488355328 ∧ gs.length ≤ cp ∧ ∀ g ∈ gs, (fun _ => True) g :=
  Zbg (fun z : Int => [Xd z]) (fun _ => True) 1 24 3 8 (fun _ => rfl) (by decide) Tryz.underlying24 (by kernel_rfl) (by kernel_rfl) (by decide) (fun n cs x h hw => by
    obtain ⟨z, e, _⟩ := DataW.trod_int Tryz.underlying3 h
    exact ⟨z, e, trivial⟩) h hw
theorem Zjm {n : Nat} {cs : List Value} {x : DataW H × List MemPlace} (h : DataW.trod enc Tryz.prog W base sp held n 26 cs = some x) (hw : ∀ b ∈ x.1.weights Tryz.prog 26, b ≤ reachBytes) : ∃ (b1 : Option Addr) (e1 : Nat) (ss : List Int) (b2 : Option Addr) (e2 : Nat) (ds : List Int), cs = [.slice b1 ss.length e1, .slice b2 ds.length e2] ∧ OldSl W [] b1 ss.length 1 (ss.map Xd) ∧ OldSl W [] b2 ds.length 1 (ds.map Xd) ∧ ss.length ≤ 140737488355328 ∧ ds.length ≤ 140737488355328 := by
  obtain ⟨k, hl, hf⟩ := fld Tryz.underlying26 h hw
  rw [show Tryz.prog.cellsOf 26 = 2 by kernel_rfl] at hl
  obtain ⟨u0, u1, rfl⟩ := len2 hl
  obtain ⟨y0, t0, w0⟩ := hf 0 _ 1 rfl (by kernel_rfl)
  replace t0 : DataW.trod enc Tryz.prog W base sp held k 24 [u0] = some y0 := t0
  obtain ⟨a0, l0, c0, e0, s0, m0, o0, g0⟩ := Zie t0 w0
  simp only [List.cons.injEq, and_true] at e0
  subst e0
  obtain ⟨y1, t1, w1⟩ := hf 1 _ 1 rfl (by kernel_rfl)
  replace t1 : DataW.trod enc Tryz.prog W base sp held k 24 [u1] = some y1 := t1
  obtain ⟨a1, l1, c1, e1, s1, m1, o1, g1⟩ := Zie t1 w1
  simp only [List.cons.injEq, and_true] at e1
  subst e1
  exact ⟨a0, c0, l0, a1, c1, l1, rfl, by rw [← Zlm Xd]; exact s0, by rw [← Zlm Xd]; exact s1, m0, m1⟩
end
end Ip
end Go.Proofs.YthcbcdjkfefnlaaGreatDoor
namespace Go.Proofs.YthcbcdjkfefnlaaGreatDoor
open Go.Gv
open Go.RowKit
open Go.Sn hiding En keysP keysP_len stop_ok
open Go.Ps
open Iv Sx Ip
open Go.ChangeShapes Go.WideShapes Go.ChangeAt Go.WideMaps Go.WideElems
namespace Ip
theorem tryLaid : laidOutB Tryz.prog = true := by kernel_rfl
theorem tryOwn : ownKnob Tryz.prog.godebug = none := by kernel_rfl
theorem stays {H : Type} {enc : TypeId × Value → H} {W W' : World} (hb : Below W.heap.size W W') {sp : Nat → Bool} : ∀ {ts : List TypeId} {vs : List Value} {ds : List (DataW H)} {p : List MemPlace},
    DataW.TrodAll enc Tryz.prog W 0 (fun _ => true) true ts vs ds p → (∀ t ∈ ts, Tryz.prog.readableRec t = true ∧ t < Tryz.prog.types.size) → (∀ x ∈ p, x.block < W.heap.size) → (∀ x ∈ p, sp x.block = true) → DataW.TrodAll enc Tryz.prog W' 0 sp true ts vs ds p
  | [], _, _, _, h, _, _, _ => by
    obtain ⟨rfl, rfl, rfl⟩ := trodAll_nil h
    exact h
  | t :: ts, _, _, _, h, hr, hlt, hsp => by
    obtain ⟨v, vs1, d, ds1, a, b, rfl, rfl, rfl, h1, h2⟩ := trodAll_cons h
    have hr1 := hr t (by simp)
    exact ⟨a, b, WideElems.Trod_stays tryLaid hr1.1 hr1.2 h1 (fun x hx => hb.same (hlt x (List.mem_append_left _ hx))) (fun x hx => hsp x (List.mem_append_left _ hx)),
      stays hb h2 (fun u hu => hr u (List.mem_cons_of_mem _ hu)) (fun x hx => hlt x (List.mem_append_right _ hx)) (fun x hx => hsp x (List.mem_append_right _ hx)), rfl⟩
theorem law_post {H : Type} {enc : TypeId × Value → H} {f : Func} {s : ChangeSpec} {fresh handsOn again : Bool} {W W' : World} {args : Array Value} {ds gs : List (DataW H)} {before : List MemPlace}
    (hW : DataW.Whole enc Tryz.prog f.params.toList s.vars false W args.toList ds gs before) (hv : s.vars = []) (hb : Below W.heap.size W W')
    (hrt : f.resultTypes = #[4]) (hres : (s.fn H ds).results = [.lit (.bool true)]) (hargs : (s.fn H ds).args = ds) (hvars : (s.fn H ds).vars = []) (hr : ∀ t ∈ f.params.toList, Tryz.prog.readableRec t = true ∧ t < Tryz.prog.types.size) :
    s.post enc Tryz.prog f false fresh handsOn again W args (.bool true) W' := by
  have hlt : ∀ x ∈ before, x.block < W.heap.size := fun x hx => by simpa using hW.lt x hx
  have hW0 := hW
  obtain ⟨p, q, hA, hV, rfl, hz, hn⟩ := hW
  rw [hv] at hV
  obtain ⟨rfl, rfl⟩ := trodVars_none hV
  simp only [List.append_nil] at hz hlt hW0
  have hR : ∀ (b : Nat) (sp : Nat → Bool) (hd : Bool), DataW.TrodAll enc Tryz.prog W' b sp hd f.resultTypes.toList ((Value.bool true).resultList f.resultTypes.size) (s.fn H (ds ++ [])).results [] := fun b sp hd => by
    rw [List.append_nil, hres, hrt]
    exact trodAll_cons_mk (shut_bool Tryz.underlying4 _) trodAll_mk0
  have hA' : ∀ sp : Nat → Bool, (∀ x ∈ p, sp x.block = true) → DataW.TrodAll enc Tryz.prog W' 0 sp true f.params.toList args.toList (s.fn H (ds ++ [])).args p := fun sp hsp => by
    rw [List.append_nil, hargs]; exact stays hb hA hr hlt hsp
  have hVv : ∀ sp : Nat → Bool, DataW.TrodVars enc Tryz.prog W' sp s.vars (s.fn H (ds ++ [])).vars [] := fun sp => by
    rw [List.append_nil, hv, hvars]; rfl
  have hok : ∀ (j : Nat) (t : TypeId) (r : Value), f.resultTypes[j]? = some t → ((Value.bool true).resultList f.resultTypes.size)[j]? = some r → Value.okWide Tryz.prog W' .any 0 t r := ok_one hrt rfl (okWide_bool_mk Tryz.underlying4 _)
  refine ⟨ds, [], p, [], p, [], hW0, hR _ _ _, hA' _ (fun x hx => by simpa using hlt x hx), hVv _, World.keptBut_mono (fun x hx => ⟨hx, .inr (by simpa using hx)⟩) (hb.frame _), fun _ => ?_⟩
  refine ⟨hok, _, _, ([] ++ p) ++ [], ⟨[] ++ p, [], trodAll_append (hA' (fun _ => true) (fun _ _ => rfl)) (hR _ _ _), hVv _, rfl, ?_, fun h => by cases h⟩, ?_⟩
  · intro b off hp
    have hp' : MemPlace.cell b off ∈ p := by simpa using hp
    rw [hb.frozen (p := ⟨b, off, none⟩) (hlt _ hp')]
    exact hz b off hp'
  · intro x hx _
    simpa using hx
set_option maxRecDepth 100000
def laidL : List (String × DataW Unit) := [("math/bits.deBruijn32tab", Rows.laid_math_bits_deBruijn32tab), ("math/bits.deBruijn64tab", Rows.laid_math_bits_deBruijn64tab), ("internal/strconv.uint64pow10", Rows.laid_internal_strconv_uint64pow10)]
theorem door_met (os : Os) (args : Array Value) : laidMetH Tryz.prog laidL ((World.doorLaid Tryz.prog 400 os).forCall (fun _ _ => 0) ⟨#[], args, []⟩).memory :=
  laidMetH_of_parts3 (fuel := 8) (laidMet_of_run' 8 (by kernel_rfl) (by kernel_rfl)) (by kernel_rfl) (by kernel_rfl)
end Ip
end Go.Proofs.YthcbcdjkfefnlaaGreatDoor
namespace Go.Proofs.YthcbcdjkfefnlaaGreatDoor
open Go.Gv
open Go.RowKit
open Go.Sn hiding En keysP keysP_len stop_ok
open Go.Ps
open Iv Sx Ip
namespace Ip
structure Pr where
  one : Nat
  two : Nat
  fst : Nat
  oth : Nat
  a1 : Option Addr
  c1 : Nat
  rs : List Int
  a2 : Option Addr
  c2 : Nat
  rc : List Int
  a3 : Option Addr
  c3 : Nat
  ts : List Int
  a4 : Option Addr
  c4 : Nat
  tc : List Int
  deriving Inhabited
abbrev Pr.cells (p : Pr) : List Value := [.int .u8 (p.one : Int), .int .u8 (p.two : Int), .int .u8 (p.fst : Int), .int .u8 (p.oth : Int), .slice p.a1 p.rs.length p.c1, .slice p.a2 p.rc.length p.c2, .slice p.a3 p.ts.length p.c3, .slice p.a4 p.tc.length p.c4]
abbrev Pr.val (p : Pr) : Value := .agg #[.int .u8 (p.one : Int), .int .u8 (p.two : Int), .int .u8 (p.fst : Int), .int .u8 (p.oth : Int), .slice p.a1 p.rs.length p.c1, .slice p.a2 p.rc.length p.c2, .slice p.a3 p.ts.length p.c3, .slice p.a4 p.tc.length p.c4]
structure PrIn (p : Pr) (w : World) (S : List Nat) : Prop where
  rs : OldSl w S p.a1 p.rs.length 1 (p.rs.map Xd)
  rc : OldSl w S p.a2 p.rc.length 1 (p.rc.map Xd)
  ts : OldSl w S p.a3 p.ts.length 1 (p.ts.map Xd)
  tc : OldSl w S p.a4 p.tc.length 1 (p.tc.map Xd)
structure PrLe (p : Pr) : Prop where
  one : p.one < 256
  two : p.two < 256
  fst : p.fst < 256
  oth : p.oth < 256
  rs : p.rs.length ≤ 140737488355328
  rc : p.rc.length ≤ 140737488355328
  ts : p.ts.length ≤ 140737488355328
  tc : p.tc.length ≤ 140737488355328
end Ip
open Ip
open Go.Deep Go.ChangeShapes Go.WideShapes
namespace Ip
section
variable {H : Type} {enc : TypeId × Value → H} {W : World} {base : Nat} {sp : Nat → Bool} {held : Bool}
theorem openPair {n : Nat} {cs : List Value} {x : DataW H × List MemPlace} (h : DataW.trod enc Tryz.prog W base sp held n 87 cs = some x) (hw : ∀ b ∈ x.1.weights Tryz.prog 87, b ≤ reachBytes) : ∃ g : Pr, cs = g.cells ∧ PrIn g W [] ∧ PrLe g := by
  obtain ⟨k, hl, hf⟩ := fld Tryz.underlying87 h hw
  rw [show Tryz.prog.cellsOf 87 = 8 by kernel_rfl] at hl
  obtain ⟨u0, u1, u2, u3, u4, u5, u6, u7, rfl⟩ := len8 hl
  obtain ⟨y0, t0, w0⟩ := hf 0 _ 1 rfl (by kernel_rfl)
  replace t0 : DataW.trod enc Tryz.prog W base sp held k 5 [u0] = some y0 := t0
  obtain ⟨z0, rfl, b0⟩ := Zji Tryz.underlying5 t0
  obtain ⟨y1, t1, w1⟩ := hf 1 _ 1 rfl (by kernel_rfl)
  replace t1 : DataW.trod enc Tryz.prog W base sp held k 5 [u1] = some y1 := t1
  obtain ⟨z1, rfl, b1⟩ := Zji Tryz.underlying5 t1
  obtain ⟨y2, t2, w2⟩ := hf 2 _ 1 rfl (by kernel_rfl)
  replace t2 : DataW.trod enc Tryz.prog W base sp held k 5 [u2] = some y2 := t2
  obtain ⟨z2, rfl, b2⟩ := Zji Tryz.underlying5 t2
  obtain ⟨y3, t3, w3⟩ := hf 3 _ 1 rfl (by kernel_rfl)
  replace t3 : DataW.trod enc Tryz.prog W base sp held k 5 [u3] = some y3 := t3
  obtain ⟨z3, rfl, b3⟩ := Zji Tryz.underlying5 t3
  obtain ⟨y4, t4, w4⟩ := hf 4 _ 2 rfl (by kernel_rfl)
  replace t4 : DataW.trod enc Tryz.prog W base sp held k 26 [u4, u5] = some y4 := t4
  obtain ⟨b4, e4, ss4, d4, f4, ds4, e4x, o4, q4, m4, n4⟩ := Zjm t4 w4
  simp only [List.cons.injEq, and_true] at e4x
  obtain ⟨rfl, rfl⟩ := e4x
  obtain ⟨y5, t5, w5⟩ := hf 5 _ 2 rfl (by kernel_rfl)
  replace t5 : DataW.trod enc Tryz.prog W base sp held k 26 [u6, u7] = some y5 := t5
  obtain ⟨b5, e5, ss5, d5, f5, ds5, e5x, o5, q5, m5, n5⟩ := Zjm t5 w5
  simp only [List.cons.injEq, and_true] at e5x
  obtain ⟨rfl, rfl⟩ := e5x
  exact ⟨⟨z0, z1, z2, z3, b4, e4, ss4, d4, f4, ds4, b5, e5, ss5, d5, f5, ds5⟩, rfl, ⟨o4, q4, o5, q5⟩, ⟨b0, b1, b2, b3, m4, n4, m5, n5⟩⟩
end
end Ip
namespace Ip
section
variable {d r p1 p2 p3 t c : Nat}
theorem ex10_le : OrgLe (Zfz d r p1 p2 p3 t c) := by
  refine ⟨by show 1 ≤ 140737488355328; omega, by show 2 ≤ 140737488355328; omega, by show 3 ≤ 140737488355328; omega, by show 1 ≤ 140737488355328; omega, Zgl (m := 16) (by omega) (by kernel_rfl), fun x hx => ?_, Zgl (m := 16) (by omega) (by kernel_rfl), Zgl (m := 16) (by omega) (by kernel_rfl), Zgl (m := 16) (by omega) (by kernel_rfl), Zgl (m := 16) (by omega) (by kernel_rfl)⟩
  have h : ((Zfz d r p1 p2 p3 t c).ss.all fun x => Nat.ble x.ps.length x.pc) = true := by kernel_rfl
  exact Nat.le_of_ble_eq_true (List.all_eq_true.1 h x hx)
theorem ex10_in {w : World} {S : List Nat} (hd : OldSl w S (rowA (some d)) 1 3 (exDs.flatMap Dv.cells)) (hr : OldSl w S (rowA (some r)) 2 6 (exRs.flatMap Rk.cells)) (ht : OldSl w S (rowA (some t)) 3 5 ((exSs p1 p2 p3).flatMap St.cells)) (hc : OldSl w S (rowA (some c)) 1 6 (exC1.flatMap Cp.cells)) (h1 : OldSl w S (rowA (some p1)) 1 4 (exP1.flatMap Pt.cells)) (h2 : OldSl w S (rowA (some p2)) 1 4 (exP2.flatMap Pt.cells)) (h3 : OldSl w S (rowA (some p3)) 1 4 (exP3.flatMap Pt.cells)) : OrgIn (Zfz d r p1 p2 p3 t c) w S := by
  refine ⟨hd, hr, ht, hc, fun x hx => ?_⟩
  change x ∈ exSs p1 p2 p3 at hx
  unfold exSs at hx
  rcases List.mem_cons.1 hx with rfl | hx
  · exact h1
  rcases List.mem_cons.1 hx with rfl | hx
  · exact h2
  rcases List.mem_cons.1 hx with rfl | hx
  · exact h3
  · cases hx
theorem ex10_chk : (Yn (Zfz d r p1 p2 p3 t c)).2 = 0 := by kernel_rfl
end
structure PsNew (s : Org) (q q2 : SS) (V2 : Yl) (c : Cl) : Prop where
  chk : (Yn s).2 = 0
  st : PSt (clS s c) q2 V2 2 [] []
  lk : q.Like q2
  nd : s.ds.length ≤ 6
  ns : s.ss.length ≤ 80
  nc : s.cs.length ≤ 24
theorem open_new {s : Org} {q : SS} {v : Value} {T : List HL} (h : OpenR s q (fun _ => none) 1 v T) :
    ((Yn s).2 ≠ 0 ∧ v = .tuple #[.pointer none, .int .i64 (Yn s).2] ∧ T = q.hl) ∨ ∃ (bp : Nat) (c : Cl) (q2 : SS) (V2 : Yl), v = .tuple #[.pointer (some ⟨bp, 0, none⟩), .int .i64 0] ∧ PsNew s q q2 V2 c ∧ T = psH s bp q2.bs c ++ q2.hl := by
  rcases h with ⟨h1, rfl, rfl⟩ | ⟨_, ⟨m, old, hv, _⟩, _⟩ | ⟨h1, bp, c, q2, V2, rfl, hq2, hlk, hV, rfl⟩
  · exact .inl ⟨h1, rfl, rfl⟩
  · cases hv
  · obtain ⟨hd, hs, hc⟩ := Zjk h1
    obtain ⟨_, rfl⟩ := hV.resolve_left (fun ⟨m, h, _⟩ => nomatch h)
    exact .inr ⟨bp, c, q2, _, rfl, ⟨h1, ⟨hq2, PR.start hd hs hc⟩, hlk, hd, hs, hc⟩, by rw [hlk.bs]⟩
theorem Zeg (q : SS) {n : Nat} (hn : q.New n) (h4 : 4 ≤ n) (S : List Nat) (w0 : World) (hown : Own w0 S w0 q.hl) (s : Org) (hle : OrgLe s) (hS : OrgIn s w0 S) : Sp Tryz.prog 12 [.pointer (some ⟨q.bs, 0, none⟩), s.val] w0 S (fun v T => ((Yn s).2 ≠ 0 ∧ v = .tuple #[.pointer none, .int .i64 (Yn s).2] ∧ T = q.hl) ∨ ∃ (bp : Nat) (c : Cl) (q2 : SS) (V2 : Yl), v = .tuple #[.pointer (some ⟨bp, 0, none⟩), .int .i64 0] ∧ PsNew s q q2 V2 c ∧ T = psH s bp q2.bs c ++ q2.hl) := by
  have hcap : (fun _ => none : Yl) 0 = none → q.m.length < 10 * (q.f.b.length / 256 - 2) := fun _ => by rw [hn.m0, hn.len]; omega
  exact (Open_okP q _ 1 hn.ok S w0 hown s hle hS (by decide) (fun m h => nomatch h) hcap hn.left).mono fun v T h => open_new h
theorem PsNew.left {s : Org} {q q2 : SS} {V2 : Yl} {c : Cl} (h : PsNew s q q2 V2 c) {n : Nat} (hn : q.New n) : q2.f.left = -1 := h.lk.no hn.left
theorem PsNew.cap {s : Org} {q q2 : SS} {V2 : Yl} {c : Cl} (h : PsNew s q q2 V2 c) {n : Nat} (hn : q.New n) : q2.cap = 10 * (n - 2) := by
  rw [h.lk.cap]; unfold SS.cap; rw [hn.len]; congr 2; omega
section
variable {s : Org} {q : SS} {V : Yl} {n : Nat} {t : RS} {x : Pis} {ss cs : List Int} {v : Value} {T : List HL}
theorem Zly (h : PSt s q V n t.1 t.2) (hl : q.f.left = -1) (hR : SetR s q V n x ss cs v T) : Done s q (n + 1) (W1 s q.cap t x ss cs).1 (W1 s q.cap t x ss cs).2 v T := (set_conv h hR).resolve_right fun h => h.2.2.1 hl
end
end Ip
open Ip
namespace Ip
theorem VA (l : List HL) : Sub [] l := ⟨[], by simp, rfl⟩
end Ip
theorem WL (w0 : World) : Sp Tryz.prog 10 [] w0 [] (RV (.bool true)) := by
  refine ZC Tryz.func10 rfl Tryz.ntmps10 rfl (Own.refl _) ?_
  simp only [ZS]
  refine Zb <| Za <| gas rfl rfl <| gA <| Zb <| Za <| Zs (ZF rfl (vf := []) (vc := []) rfl rfl Tryz.call11 (fun w1 ho => Zlw 4 (by decide) (by decide) w1) ?_)
  rintro _ _ ⟨q, rfl, hn, rfl⟩
  refine JQ [] q.hl [] <| gm rfl rfl <| gr rfl (ZA rfl rfl) <| gr rfl (ZA rfl rfl) <| gas rfl rfl <| gas rfl rfl <| gA <| Zb <| Za <| gm rfl rfl <| Zs (ZF rfl (vf := []) (vc := []) rfl rfl Tryz.call13 (fun w1 ho => ex10_ok w1) ?_)
  rintro _ _ ⟨xe, xd, xr, x1, x2, x3, xt, xc, rfl, rfl⟩
  refine Zs (Yt [_, _, _, _, _, _, _, _] q.hl rfl rfl (vf := []) (vc := []) rfl rfl Tryz.call12 rfl (fun w how hc => Zeg q hn (by decide) _ w hc (Zfz xd xr x1 x2 x3 xt xc) ex10_le (ex10_in (how.rowSlT (A := [_, _, _, _, _, _, _, _]) 7 rfl) (how.rowSlT (A := [_, _, _, _, _, _, _, _]) 6 rfl) (how.rowSlT (A := [_, _, _, _, _, _, _, _]) 2 rfl) (how.rowSlT (A := [_, _, _, _, _, _, _, _]) 1 rfl) (how.rowSlT (A := [_, _, _, _, _, _, _, _]) 5 rfl) (how.rowSlT (A := [_, _, _, _, _, _, _, _]) 4 rfl) (how.rowSlT (A := [_, _, _, _, _, _, _, _]) 3 rfl))) ?_)
  rintro _ _ (⟨hck, _⟩ | ⟨bp, c9, q2, V2, rfl, hp2, rfl⟩)
  · exact absurd ex10_chk hck
  rw [← hp2.lk.bs, ← hp2.lk.bf]
  have hst2 := hp2.st
  have hlf2 := hp2.left hn
  have hcap2 : q2.cap = 20 := hp2.cap hn
  refine gm rfl rfl <| gr rfl (ZA rfl rfl) <| gr rfl (ZA rfl rfl) <| gas rfl rfl <| gas rfl rfl <| gA <| Zb <| Zb <| Za <| gm rfl rfl <| gr rfl (ZV rfl rfl) (Zx (fun h20 => ?_) (fun h20 => ?_))
  · exact absurd rfl h20
  refine gm rfl rfl <| Ze rfl rfl <| Zk rfl (Zq rfl) <| Ze rfl rfl <| Zk rfl (X9 eg_36 Tryz.underlying36 rfl rfl) <| gr rfl (Zm rfl rfl) <| gA <| Zn rfl <| Zu <| Zf <| Zb <| Za <| gr rfl (ZO rfl (fun _ => WH _ _ _)) ?_
  refine Zs (ZP YT rfl rfl (fun b5 => ?_))
  refine Zs (Zz 0 YT rfl rfl rfl rfl rfl rfl (by rfl) ?_)
  refine gA <| Zb <| Za <| gm rfl rfl <| gr rfl (Zv Tryz.underlying23 rfl YT rfl (by exact ZG 0 (off := 0) (k := 3) rfl rfl) rfl) ?_
  refine Zs (Z0 (sz := 1) rfl rfl (fun _ => Zd7 _ _) rfl rfl (fun b28 => ?_))
  refine Zs (Z0 (sz := 1) rfl rfl (fun _ => Xs _) rfl rfl (fun b29 => ?_))
  refine gr rfl (ZO rfl (fun _ => Zhc _ _ _ _ _ _)) ?_
  refine Zs (Yt [_, _, _, _, _, _, _, _, _, _, _, _, _, _, _] q2.hl rfl rfl (vf := []) (vc := []) rfl rfl Tryz.call19 rfl (fun w how hc => Zoa q2 V2 2 (.inl hst2.ok) _ w hc (by decide) (clS (Zfz xd xr x1 x2 x3 xt xc) c9) bp (Vt (A := [_, _, _, _, _, _, _, _, _, _, _, _, _, _, _]) how 11 13 14 rfl rfl rfl hp2.nd hp2.ns hp2.nc) ⟨1, -1, 1⟩ [0, 2] [0] _ _ _ _ (by decide) (by decide) (how.rowSlT (A := [_, _, _, _, _, _, _, _, _, _, _, _, _, _, _]) 1 rfl) (how.rowSlT (A := [_, _, _, _, _, _, _, _, _, _, _, _, _, _, _]) 0 rfl)) ?_)
  rintro v9 T9 hput
  obtain ⟨q3, V3, rfl, hlk3, hst3, rfl⟩ := Zly (t := ([], [])) hst2 hlf2 hput
  have hlf3 := hlk3.no hlf2
  have hcap3 := hlk3.cap.trans hcap2
  have e3 : W1 (clS (Zfz xd xr x1 x2 x3 xt xc) c9) 20 ([], []) ⟨1, -1, 1⟩ [0, 2] [0] = (([⟨1, -1, 1⟩], [(⟨1, -1, 1⟩, ([0, 2], [0]))]), 0) := by kernel_rfl
  rw [hcap2, e3] at hst3
  rw [hcap2, e3]
  rw [← hlk3.bs]
  refine gas rfl rfl <| gA <| Zb <| Za <| gm rfl rfl <| gr rfl (Zv Tryz.underlying23 rfl YT rfl (by exact ZG 2 (off := 0) (k := 3) rfl rfl) rfl) ?_
  refine Zs (Z0 (sz := 1) rfl rfl (fun _ => Xs _) rfl rfl (fun b35 => ?_))
  refine gr rfl (ZO rfl (fun _ => bd_26_0 _ _ _)) ?_
  refine Zs (Yt [_, _, _, _, _, _, _, _, _, _, _, _, _, _, _, _] q3.hl rfl rfl (vf := []) (vc := []) rfl rfl Tryz.call16 rfl (fun w how hc => Zh8 q3 V3 3 (.inl hst3.ok) _ w hc (by decide) (clS (Zfz xd xr x1 x2 x3 xt xc) c9) bp (Vt (A := [_, _, _, _, _, _, _, _, _, _, _, _, _, _, _, _]) how 12 14 15 rfl rfl rfl hp2.nd hp2.ns hp2.nc) ⟨1, -1, 1⟩ (fun hx r hk => hst3.rg hx hk) [1] [] _ _ _ _ (by decide) (by decide) (how.rowSlT (A := [_, _, _, _, _, _, _, _, _, _, _, _, _, _, _, _]) 0 rfl) (Zl4 _ _ _)) ?_)
  rintro _ _ ⟨e, p, r, c, r2, c2, rfl, rfl, hpi⟩
  obtain ⟨rfl, rfl⟩ := Zgo (t := ([⟨1, -1, 1⟩], [(⟨1, -1, 1⟩, ([0, 2], [0]))])) hst3 hpi
  have e4 : Vo (clS (Zfz xd xr x1 x2 x3 xt xc) c9) ([⟨1, -1, 1⟩], [(⟨1, -1, 1⟩, ([0, 2], [0]))]) ⟨1, -1, 1⟩ [1] [] = (([0, 2], [0]), 0) := by kernel_rfl
  rw [e4]
  refine gm rfl rfl <| gr rfl (ZA rfl rfl) <| gr rfl (ZA rfl rfl) <| Zs (ZP Z6 rfl rfl (fun b7 => ?_))
  refine Zs (Zz 0 Z6 rfl rfl rfl rfl rfl rfl (by rfl) ?_)
  refine gas rfl rfl <| gA <| Zb <| Za <| gm rfl rfl <| gr rfl (Yg rfl rfl) (Zx (fun h41 => ?_) (fun h41 => ?_))
  · refine gm rfl rfl <| Ze rfl rfl <| Zk rfl (Zq rfl) <| Ze rfl rfl (Zk rfl (Yg rfl rfl) (Zx (fun h44 => ?_) (fun h44 => ?_)))
    · refine gr rfl (Zp rfl rfl) <| gm rfl rfl <| Ze rfl rfl (Zk rfl (Zv Tryz.underlying26 rfl Z6 rfl (by exact ZG 0 (off := 0) (k := 2) rfl rfl) rfl) ?_)
      refine Ze rfl rfl (Z0 (sz := 1) rfl rfl (fun _ => Zd7 _ _) rfl rfl (fun b48 => ?_))
      refine Ze rfl rfl (Z0 (sz := 1) rfl rfl (fun _ => Xs _) rfl rfl (fun b49 => ?_))
      refine Ze rfl rfl (Zk rfl (ZO rfl (fun _ => Zhc _ _ _ _ _ _)) ?_)
      refine Ze rfl rfl (ZF rfl (vf := []) (vc := []) rfl rfl Tryz.call32 (fun w1 ho => Zc3 ([0, 2], [0]) ([0, 2], [0]) (rowA r) (some ⟨b48, 0, none⟩) (rowA r2) (some ⟨b49, 0, none⟩) c 2 c2 1 (by decide) (by decide) w1 (ho.rowSl 19 rfl) (ho.rowSl 20 rfl) (ho.rowSl 1 rfl) (ho.rowSl 0 rfl)) ?_)
      rintro _ _ ⟨rfl, rfl⟩
      refine gr rfl (Zp rfl rfl) <| gas rfl rfl <| gA <| Zr <| Z7 (.inl rfl) Tryz.results10 rfl (VA _) ?_
      exact ⟨rfl, rfl⟩
    exact absurd rfl h44
  exact absurd rfl h41
namespace Ip
theorem fl_front (q : SS) : Sub (q.fl ++ (q.blk :: .obj q.bm (XG HV q.m q.nb) :: q.T)) q.hl := ZU (A := [_, _, _, _, _]) (B := [_, _, _, _, _]) (T := q.T) [2, 3, 4, 0, 1] 5 (by decide) (by decide) rfl rfl
theorem SS.flash {q : SS} {F : FuncId} {args : List Value} {w0 : World} {S : List Nat} {R : Value → List HL → Prop} (hown : Own w0 S w0 q.hl) (h : ∀ S', Own w0 S' w0 q.fl → Sp Tryz.prog F args w0 S' R) :
    Sp Tryz.prog F args w0 S (fun v L => ∃ L1, R v L1 ∧ L = L1 ++ (q.blk :: .obj q.bm (XG HV q.m q.nb) :: q.T)) :=
  Sp.frame (l1 := q.fl) (l2 := q.blk :: .obj q.bm (XG HV q.m q.nb) :: q.T) (hown.sub (fl_front q)) fun ho => h _ ho
def NonP (w : World) (p : Option Addr) : Prop := p = none ∨ ∃ b, p = some ⟨b, 0, none⟩ ∧ w.cell? ⟨b, 0, none⟩ = some (.bool false)
theorem NonP.at {w0 w : World} {l : List HL} {p : Option Addr} (h : NonP w0 p) (ho : Own w0 [] w l) : NonP w p := by
  rcases h with h | ⟨b, h, hc⟩
  · exact .inl h
  · exact .inr ⟨b, h, ho.cellOld hc (by simp)⟩
end Ip
open Ip
namespace Ip
abbrev keC (e : KE) : List Value := [.int .i64 e.x.lv, .int .i64 e.x.dv, .int .i64 e.x.nm, .slice e.a1 e.r.1.length e.c1, .slice e.a2 e.r.2.length e.c2]
structure RH where
  br : Nat
  ru : Option Nat
  cu : Nat
  rl : Option Nat
  cl : Nat
  U : List Pis
  L : List KE
  T : List HL
abbrev rfC (s : Org) (room : Nat) (t : RH) : List Value := [.slice s.da s.ds.length s.dc, .slice s.ra s.rs.length s.rc, .slice s.sa s.ss.length s.sc, .slice s.ca s.cs.length s.cc, natV room, .slice (rowA t.ru) t.U.length t.cu, .slice (rowA t.rl) t.L.length t.cl]
abbrev rfU (t : RH) : HL := .row 23 3 t.ru t.U.length t.cu (t.U.flatMap Pis.cells)
abbrev rfL (t : RH) : HL := .row 176 5 t.rl t.L.length t.cl (t.L.flatMap keC)
abbrev RH.hd (s : Org) (room : Nat) (t : RH) : List HL := [.blk t.br (rfC s room t) 76, rfU t, rfL t]
abbrev RH.hl (s : Org) (room : Nat) (t : RH) : List HL := .blk t.br (rfC s room t) 76 :: rfU t :: rfL t :: t.T
abbrev RH.st (t : RH) : RS := (t.U, prs t.L)
def SlM (l : List HL) (a : Option Addr) (k : List Nat) : Prop := ∃ r c, a = rowA r ∧ HL.row 3 1 r k.length c (k.map natV) ∈ l
def KeM (l : List HL) (e : KE) : Prop := SlM l e.a1 e.r.1 ∧ SlM l e.a2 e.r.2
theorem SlM.mono {l l2 : List HL} {a : Option Addr} {k : List Nat} (h : SlM l a k) (hs : ∀ x ∈ l, x ∈ l2) : SlM l2 a k := by
  obtain ⟨r, c, h1, h2⟩ := h
  exact ⟨r, c, h1, hs _ h2⟩
theorem KeM.mono {l l2 : List HL} {e : KE} (h : KeM l e) (hs : ∀ x ∈ l, x ∈ l2) : KeM l2 e := ⟨h.1.mono hs, h.2.mono hs⟩
theorem SlM.at {w0 w : World} {S : List Nat} {l : List HL} {a : Option Addr} {k : List Nat} (h : SlM l a k) (ho : Own w0 S w l) : OldSl w [] a k.length 1 (k.map natV) := by
  obtain ⟨r, c, rfl, h2⟩ := h
  exact slMem ho h2
structure KeIn (e : KE) (w : World) (S : List Nat) : Prop where
  s : OldSl w S e.a1 e.r.1.length 1 (e.r.1.map natV)
  c : OldSl w S e.a2 e.r.2.length 1 (e.r.2.map natV)
theorem KeIn.at {e : KE} {w0 w : World} {S : List Nat} {l : List HL} (h : KeIn e w0 S) (ho : Own w0 S w l) : KeIn e w [] := ⟨h.s.at ho, h.c.at ho⟩
theorem KeM.at {w0 w : World} {S : List Nat} {l : List HL} {e : KE} (h : KeM l e) (ho : Own w0 S w l) : KeIn e w [] := ⟨h.1.at ho, h.2.at ho⟩
structure RfIn (s : Org) (room : Nat) (t : RH) (w : World) (S : List Nat) : Prop where
  p : Cells w ⟨t.br, 0, none⟩ (rfC s room t)
  o : t.br ∉ S
  u : OldSl w S (rowA t.ru) t.U.length 3 (t.U.flatMap Pis.cells)
  l : OldSl w S (rowA t.rl) t.L.length 5 (t.L.flatMap keC)
  k : ∀ e ∈ t.L, KeIn e w S
theorem RfIn.at {s : Org} {room : Nat} {t : RH} {w0 w : World} {S : List Nat} {l : List HL} (h : RfIn s room t w0 S) (ho : Own w0 S w l) : RfIn s room t w [] :=
  ⟨h.p.atS ho h.o, by simp, h.u.at ho, h.l.at ho, fun e he => (h.k e he).at ho⟩
theorem RfIn.of {s : Org} {room : Nat} {t : RH} {w0 w : World} {S : List Nat} {l : List HL} (ho : Own w0 S w l) (hm : ∀ x ∈ t.hd s room, x ∈ l) (hk : ∀ e ∈ t.L, KeM l e) : RfIn s room t w [] :=
  ⟨(blkMem ho 7 rfl (hm (.blk t.br (rfC s room t) 76) (by simp))).cells, by simp, slMem ho (hm (rfU t) (by simp)), slMem ho (hm (rfL t) (by simp)), fun e he => (hk e he).at ho⟩
structure RH.Ok (s : Org) (room : Nat) (t : RH) : Prop where
  p : RfP s.ds.length s.ss.length s.cs.length room t.U (prs t.L)
  k : ∀ e ∈ t.L, KeM t.T e
theorem RH.Ok.len {s : Org} {room : Nat} {t : RH} (h : t.Ok s room) : t.L.length ≤ 544 := by have := h.p.len; simpa [prs] using this
theorem RH.Ok.rg {s : Org} {room : Nat} {t : RH} (h : t.Ok s room) {e : KE} (he : e ∈ t.L) : RgOk s.ss.length s.cs.length e.r := (h.p.lok e.pr (List.mem_map.2 ⟨e, he, rfl⟩)).2
end Ip
open Ip
namespace Ip
theorem rChk_no (s : Org) (hle : OrgLe s) (hck : (Yn s).2 = 0) (b c : Nat) (ss cs : List Int) (a1 a2 : Option Addr) (c1 c2 : Nat) (hl1 : ss.length ≤ 140737488355328) (hl2 : cs.length ≤ 140737488355328) (w0 : World) (hS : OrgIn s w0 []) (hk : OldSl w0 [] (some ⟨b, 0, none⟩) s.ds.length 1 (List.replicate s.ds.length (.slice none 0 0))) (h1 : OldSl w0 [] a1 ss.length 1 (ss.map Xd)) (h2 : OldSl w0 [] a2 cs.length 1 (cs.map Xd)) :
    Sp Tryz.prog 73 [s.val, .agg #[.slice (some ⟨b, 0, none⟩) s.ds.length c, .slice a1 ss.length c1, .slice a2 cs.length c2]] w0 [] (RV (.int .i64 (Y8 s.ss.length s.cs.length ss cs))) := by
  have hm : (List.replicate s.ds.length (⟨none, 0, []⟩ : KR)).map KR.cell = List.replicate s.ds.length (.slice none 0 0) := by rw [List.map_replicate]; rfl
  have e := rChk_ok s ⟨some ⟨b, 0, none⟩, c, List.replicate s.ds.length ⟨none, 0, []⟩, a1, c1, ss, a2, c2, cs⟩ hle ⟨by rw [List.length_replicate]; exact hle.d, fun x hx => by rw [List.eq_of_mem_replicate hx]; decide, fun x hx => by rw [List.eq_of_mem_replicate hx]; decide, hl1, hl2⟩ w0 hS ⟨by rw [List.length_replicate, hm]; exact hk, fun x hx => by rw [List.eq_of_mem_replicate hx]; exact Zl4 _ _ _, h1, h2⟩
  rw [hand_reg hck (by rw [List.length_replicate]) (fun x hx => by rw [List.eq_of_mem_replicate hx])] at e
  have ev : Hd.val ⟨some ⟨b, 0, none⟩, c, List.replicate s.ds.length ⟨none, 0, []⟩, a1, c1, ss, a2, c2, cs⟩ = .agg #[.slice (some ⟨b, 0, none⟩) s.ds.length c, .slice a1 ss.length c1, .slice a2 cs.length c2] := by simp [Hd.val]
  rw [ev] at e
  exact e
end Ip
open Ip
theorem J6 (s : Org) (hle : OrgLe s) (hnd : s.ds.length ≤ 6) (hns : s.ss.length ≤ 80) (hnc : s.cs.length ≤ 24) (w0 : World) (hS : OrgIn s w0 []) (hck : (Yn s).2 = 0) (ss cs : List Int) (a1 a2 : Option Addr) (c1 c2 : Nat) (hl1 : ss.length ≤ 140737488355328) (hl2 : cs.length ≤ 140737488355328) (h1 : OldSl w0 [] a1 ss.length 1 (ss.map Xd)) (h2 : OldSl w0 [] a2 cs.length 1 (cs.map Xd)) : Sp Tryz.prog 31 [s.val, .agg #[.slice a1 ss.length c1, .slice a2 cs.length c2]] w0 [] (RV (.int .i64 (Y8 s.ss.length s.cs.length ss cs))) := by
  refine ZC Tryz.func31 rfl Tryz.ntmps31 rfl (Own.refl _) ?_
  simp only [ZS]
  refine Zb <| Za <| Zs (Yb rfl rfl rfl (fun b2 => ?_))
  refine Zs (Yb rfl rfl rfl (fun b3 => ?_))
  refine gas rfl rfl <| gA <| Zb <| ZQ [0, 1] true 11 rfl <| Zd 0 rfl rfl ⟨[0, 1], by decide, rfl⟩ (Zh (Zv Tryz.underlying45 rfl Wk rfl (by exact ZG 1 (off := 0) (k := 4) rfl rfl) rfl)) ?_
  refine Zd 1 rfl rfl ⟨[0, 1], by decide, rfl⟩ (Zh (Zc rfl (YF _))) ?_
  refine Zd 2 rfl rfl ⟨[0, 1], by decide, rfl⟩ (Zh (Zj Tryz.underlying40 rfl rfl (by exact Zo 1 rfl rfl))) ?_
  refine Zd 3 rfl rfl ⟨[0, 1], by decide, rfl⟩ (Zh (ZB Tryz.underlying40 rfl)) ?_
  refine Zd 5 rfl rfl ⟨[0, 1], by decide, rfl⟩ (Zh (Zc rfl (Xa _))) ?_
  refine Zd 6 rfl rfl ⟨[0, 1], by decide, rfl⟩ (Zh (Zj Tryz.underlying24 rfl rfl (by exact Zo 0 rfl rfl))) ?_
  refine Zd 7 rfl rfl ⟨[0, 1], by decide, rfl⟩ (Zh (Zc rfl (Xb _))) ?_
  refine Zd 8 rfl rfl ⟨[0, 1], by decide, rfl⟩ (Zh (Zj Tryz.underlying24 rfl rfl (by exact Zo 0 rfl rfl))) ?_
  refine ZL 4 rfl (.inr ⟨[0, 1], by decide, rfl⟩) (JK (s.ds.length) Tryz.underlying143 Zaa rfl rfl rfl (by omega) (by omega) (by omega) (by omega) (fun b10 => ?_))
  refine Zd 9 rfl rfl ⟨[1, 2], by decide, rfl⟩ (Zh (ZO rfl (fun _ => Zit _ _ _ _ _ _ _ _ _))) ?_
  rw [Ze7 _ rfl]
  refine ZL 10 rfl (.inr ⟨[1, 2], by decide, rfl⟩) (ZF rfl (vf := []) (vc := []) rfl rfl Tryz.call73 (fun w1 ho => rChk_no s hle hck b10 _ ss cs a1 a2 c1 c2 hl1 hl2 w1 (hS.at ho) (ho.rowSl 0 rfl) (h1.at ho) (h2.at ho)) ?_)
  rintro _ _ ⟨rfl, rfl⟩
  refine Zd 11 rfl rfl ⟨[1, 2], by decide, rfl⟩ (Zh (ZX rfl)) ?_
  refine ZR (.inr ⟨[1, 2], by decide, rfl⟩) ?_
  refine Zf <| Zb <| Za <| gm rfl rfl <| gas rfl rfl <| gA <| Zr <| Zw (.inl rfl) Tryz.results31 rfl [] (by decide) ?_
  exact ⟨rfl, rfl⟩
namespace Ip
end Ip
open Ip
namespace Ip
end Ip
open Ip
namespace Ip
section
variable {dm : List Deferred} {P : Program} {n : Nat} {e : Env} {w0 : World} {S : List Nat} {l : List HL} {dst : Option Tmp} {ty : TypeId} {pos : String} {aft : Array Edge} {gd : Option (Nat × Bool)} {t ty' : TypeId} {x y : Operand}
end
end Ip
open Ip
namespace Ip
section
variable {d r p1 p2 p3 p4 tc c : Nat} {ta : Option Nat}
end
end Ip
open Ip
namespace Ip
theorem Zpk (q : SS) (V : Yl) (n : Nat) (s : Org) (t : RS) (hst : PSt s q V n t.1 t.2) (S : List Nat) (w0 : World) (hown : Own w0 S w0 q.hl) (hn : n + 100 < 1000000) (bp : Nat) (hP : PsIn s bp q.bs w0 S) (x : Pis) (ss cs : List Int) (a1 a2 : Option Addr) (c1 c2 : Nat) (hl1 : ss.length ≤ 140737488355328) (hl2 : cs.length ≤ 140737488355328) (h1 : OldSl w0 S a1 ss.length 1 (ss.map Xd)) (h2 : OldSl w0 S a2 cs.length 1 (cs.map Xd)) (p : Rg) (e : Int) (he : Vo s t x ss cs = (p, e)) : Sp Tryz.prog 16 [.pointer (some ⟨bp, 0, none⟩), Pis.val x, .agg #[.slice a1 ss.length c1, .slice a2 cs.length c2]] w0 S (fun v L => ∃ (r : Option Nat) (d : Nat) (r2 : Option Nat) (d2 : Nat), v = .tuple #[.agg #[.slice (rowA r) p.1.length d, .slice (rowA r2) p.2.length d2], .int .i64 e] ∧ L = .row 3 1 r p.1.length d (p.1.map natV) :: .row 3 1 r2 p.2.length d2 (p.2.map natV) :: q.hl) := by
  refine (Zh8 q V n (.inl hst.ok) S w0 hown (by omega) s bp hP x (fun hx r hk => hst.rg hx hk) ss cs a1 a2 c1 c2 hl1 hl2 h1 h2).mono ?_
  rintro v L ⟨e9, p9, r, d, r2, d2, rfl, rfl, hpi⟩
  obtain ⟨rfl, rfl⟩ := Zgo (t := t) hst hpi
  rw [he]
  exact ⟨r, d, r2, d2, rfl, rfl⟩
theorem VF (q : SS) (V : Yl) (n : Nat) (s : Org) (t : RS) (hst : PSt s q V n t.1 t.2) (S : List Nat) (w0 : World) (hown : Own w0 S w0 q.hl) (hn : n + 100 < 1000000) (bp : Nat) (hP : PsIn s bp q.bs w0 S) (x : Pis) (k : Rg) (a1 a2 : Option Addr) (c1 c2 : Nat) (hl1 : k.1.length ≤ 1000) (hl2 : k.2.length ≤ 1000) (h1 : OldSl w0 S a1 k.1.length 1 (k.1.map natV)) (h2 : OldSl w0 S a2 k.2.length 1 (k.2.map natV)) (p : Rg) (e : Int) (he : Vo s t x (Ym k.1) (Ym k.2) = (p, e)) : Sp Tryz.prog 16 [.pointer (some ⟨bp, 0, none⟩), Pis.val x, .agg #[.slice a1 k.1.length c1, .slice a2 k.2.length c2]] w0 S (fun v L => ∃ (r : Option Nat) (d : Nat) (r2 : Option Nat) (d2 : Nat), v = .tuple #[.agg #[.slice (rowA r) p.1.length d, .slice (rowA r2) p.2.length d2], .int .i64 e] ∧ L = .row 3 1 r p.1.length d (p.1.map natV) :: .row 3 1 r2 p.2.length d2 (p.2.map natV) :: q.hl) := by
  have h := Zpk q V n s t hst S w0 hown hn bp hP x (Ym k.1) (Ym k.2) a1 a2 c1 c2 (by rw [Z9]; omega) (by rw [Z9]; omega) (by rw [Z9, Xc]; exact h1) (by rw [Z9, Xc]; exact h2) p e he
  rw [Z9, Z9] at h
  exact h
theorem LitG_ok (q : SS) (V : Yl) (n : Nat) (s : Org) (t : RS) (hst : PSt s q V n t.1 t.2) (S : List Nat) (w0 : World) (hown : Own w0 S w0 q.hl) (hn : n + 100 < 1000000) (bp : Nat) (hP : PsIn s bp q.bs w0 S) (ss cs : List Int) (a1 a2 : Option Addr) (c1 c2 : Nat) (hl1 : ss.length ≤ 140737488355328) (hl2 : cs.length ≤ 140737488355328) (h1 : OldSl w0 S a1 ss.length 1 (ss.map Xd)) (h2 : OldSl w0 S a2 cs.length 1 (cs.map Xd)) (l : List Pis) (e : Int) (he : Zb0 s t ss cs = (l, e)) : Sp Tryz.prog 18 [.pointer (some ⟨bp, 0, none⟩), .agg #[.slice a1 ss.length c1, .slice a2 cs.length c2]] w0 S (fun v L => ∃ (r : Option Nat) (d : Nat), v = .tuple #[.slice (rowA r) l.length d, .int .i64 e] ∧ L = .row 23 3 r l.length d (l.flatMap Pis.cells) :: q.hl) := by
  refine (Lit_okP q V n s t (.inl hst) S w0 hown hn bp hP ss cs a1 a2 c1 c2 hl1 hl2 h1 h2).mono ?_
  rintro v L ⟨e9, l9, r, d, rfl, rfl, hli⟩
  obtain ⟨rfl, rfl⟩ := lit_conv (t := t) hst hli
  rw [he]
  exact ⟨r, d, rfl, rfl⟩
theorem LitN_ok (q : SS) (V : Yl) (n : Nat) (s : Org) (t : RS) (hst : PSt s q V n t.1 t.2) (S : List Nat) (w0 : World) (hown : Own w0 S w0 q.hl) (hn : n + 100 < 1000000) (bp : Nat) (hP : PsIn s bp q.bs w0 S) (k : Rg) (a1 a2 : Option Addr) (c1 c2 : Nat) (hl1 : k.1.length ≤ 1000) (hl2 : k.2.length ≤ 1000) (h1 : OldSl w0 S a1 k.1.length 1 (k.1.map natV)) (h2 : OldSl w0 S a2 k.2.length 1 (k.2.map natV)) (l : List Pis) (e : Int) (he : Zb0 s t (Ym k.1) (Ym k.2) = (l, e)) : Sp Tryz.prog 18 [.pointer (some ⟨bp, 0, none⟩), .agg #[.slice a1 k.1.length c1, .slice a2 k.2.length c2]] w0 S (fun v L => ∃ (r : Option Nat) (d : Nat), v = .tuple #[.slice (rowA r) l.length d, .int .i64 e] ∧ L = .row 23 3 r l.length d (l.flatMap Pis.cells) :: q.hl) := by
  have h := LitG_ok q V n s t hst S w0 hown hn bp hP (Ym k.1) (Ym k.2) a1 a2 c1 c2 (by rw [Z9]; omega) (by rw [Z9]; omega) (by rw [Z9, Xc]; exact h1) (by rw [Z9, Xc]; exact h2) l e he
  rw [Z9, Z9] at h
  exact h
theorem Zjn (q : SS) (V : Yl) (n : Nat) (s : Org) (t : RS) (hst : PSt s q V n t.1 t.2) (S : List Nat) (w0 : World) (hown : Own w0 S w0 q.hl) (hn : n + 100 < 1000000) (bp : Nat) (hP : PsIn s bp q.bs w0 S) (hl : q.f.left = -1) (x : Pis) (k : Rg) (a1 a2 : Option Addr) (c1 c2 : Nat) (hl1 : k.1.length ≤ 1000) (hl2 : k.2.length ≤ 1000) (h1 : OldSl w0 S a1 k.1.length 1 (k.1.map natV)) (h2 : OldSl w0 S a2 k.2.length 1 (k.2.map natV)) (t2 : RS) (he : W1 s q.cap t x (Ym k.1) (Ym k.2) = (t2, 0)) : Sp Tryz.prog 19 [.pointer (some ⟨bp, 0, none⟩), Pis.val x, .agg #[.slice a1 k.1.length c1, .slice a2 k.2.length c2]] w0 S (fun v L => ∃ (q2 : SS) (V2 : Yl), v = .int .i64 0 ∧ L = q2.hl ∧ q.Like q2 ∧ PSt s q2 V2 (n + 1) t2.1 t2.2) := by
  have h := (Zoa q V n (.inl hst.ok) S w0 hown (by omega) s bp hP x (Ym k.1) (Ym k.2) a1 a2 c1 c2 (by rw [Z9]; omega) (by rw [Z9]; omega) (by rw [Z9, Xc]; exact h1) (by rw [Z9, Xc]; exact h2)).mono (R' := (fun v L => ∃ (q2 : SS) (V2 : Yl), v = .int .i64 0 ∧ L = q2.hl ∧ q.Like q2 ∧ PSt s q2 V2 (n + 1) t2.1 t2.2)) ?_
  · rw [Z9, Z9] at h
    exact h
  · intro v L hR
    obtain ⟨q2, V2, rfl, hlk, h2, rfl⟩ := Zly (t := t) hst hl hR
    rw [he] at h2 ⊢
    exact ⟨q2, V2, rfl, rfl, hlk, h2⟩
end Ip
open Ip
theorem Zjo (s : Org) (hle : OrgLe s) (o1 o2 n1 n2 : Nat) (a1 : Option Addr) (c1 : Nat) (rs : List Int) (a2 : Option Addr) (c2 : Nat) (rc : List Int) (a3 : Option Addr) (c3 : Nat) (ts : List Int) (a4 : Option Addr) (c4 : Nat) (tc : List Int) (l1 : o1 < 256) (l2 : o2 < 256) (l3 : n1 < 256) (l4 : n2 < 256) (l5 : rs.length ≤ 140737488355328) (l6 : rc.length ≤ 140737488355328) (l7 : ts.length ≤ 140737488355328) (l8 : tc.length ≤ 140737488355328) (w0 : World) (hS : OrgIn s w0 []) (g1 : OldSl w0 [] a1 rs.length 1 (rs.map Xd)) (g2 : OldSl w0 [] a2 rc.length 1 (rc.map Xd)) (g3 : OldSl w0 [] a3 ts.length 1 (ts.map Xd)) (g4 : OldSl w0 [] a4 tc.length 1 (tc.map Xd)) (b1 : Option Addr) (k1 : Nat) (ws : List Int) (b2 : Option Addr) (k2 : Nat) (wc : List Int) (hw1 : ws.length ≤ 140737488355328) (hw2 : wc.length ≤ 140737488355328) (h1 : OldSl w0 [] b1 ws.length 1 (ws.map Xd)) (h2 : OldSl w0 [] b2 wc.length 1 (wc.map Xd)) : Sp Tryz.prog 6 [s.val, .agg #[.int .u8 (o1 : Int), .int .u8 (o2 : Int), .int .u8 (n1 : Int), .int .u8 (n2 : Int), .slice a1 rs.length c1, .slice a2 rc.length c2, .slice a3 ts.length c3, .slice a4 tc.length c4], .agg #[.slice b1 ws.length k1, .slice b2 wc.length k2]] w0 [] (RV (.bool true)) := by
  refine ZC Tryz.func6 rfl Tryz.ntmps6 rfl (Own.refl _) ?_
  simp only [ZS]
  refine Zb <| Za <| Zs (Yb rfl rfl rfl (fun b3 => ?_))
  refine Zs (Yb rfl rfl rfl (fun b4 => ?_))
  refine Zs (Yb rfl rfl rfl (fun b5 => ?_))
  refine gas rfl rfl <| gA <| Zb <| Za <| gr rfl (Zv Tryz.underlying45 rfl Wk rfl (by exact ZG 2 (off := 0) (k := 4) rfl rfl) rfl) ?_
  refine Zs (ZF rfl (vf := []) (vc := []) rfl rfl Tryz.call22 (fun w1 ho => Zhh s hle w1 (hS.at ho)) ?_)
  rintro _ _ ⟨rfl, rfl⟩
  refine gm rfl rfl <| gr rfl (ZA rfl rfl) <| gr rfl (ZA rfl rfl) <| Zs (ZP YE rfl rfl (fun b7 => ?_))
  refine Zs (Zz 0 YE rfl rfl rfl rfl rfl rfl (by rfl) ?_)
  refine gas rfl rfl <| gA <| Zb <| Zb <| Za <| gr rfl (Zv Tryz.underlying45 rfl Wk rfl (by exact ZG 3 (off := 0) (k := 4) rfl rfl) rfl) ?_
  refine Zs (ZF rfl (vf := []) (vc := []) rfl rfl Tryz.call23 (fun w1 ho => far10_ok s hle w1 (hS.at ho)) ?_)
  rintro _ _ ⟨fa, rfl, rfl⟩
  refine gm rfl rfl <| ZW (fun h36 => ?_) (fun h36 => ?_)
  · refine Zi rfl rfl rfl <| Zi rfl rfl rfl <| gr rfl (Zp rfl rfl) <| gm rfl rfl <| Zi rfl rfl rfl <| Zi rfl rfl rfl <| Zi rfl rfl rfl <| Zi rfl rfl rfl <| Zi rfl rfl rfl <| gr rfl (Zp rfl rfl) <| gm rfl rfl <| Zi rfl rfl rfl <| Zi rfl rfl rfl <| Zi rfl rfl rfl <| Zi rfl rfl rfl <| Zi rfl rfl rfl <| gr rfl (Zp rfl rfl) <| gm rfl rfl <| Zi rfl rfl rfl <| Zi rfl rfl rfl <| Zi rfl rfl rfl <| Zi rfl rfl rfl <| gr rfl (Zp rfl rfl) <| gm rfl rfl <| Zi rfl rfl rfl ?_
    refine Zi rfl rfl rfl <| Zi rfl rfl rfl <| Zi rfl rfl rfl <| gr rfl (Zp rfl rfl) <| gA <| Zl rfl <| Zb <| Za <| Zs (ZF rfl (vf := []) (vc := []) rfl rfl Tryz.call10 (fun w1 ho => WL w1) ?_)
    rintro _ _ ⟨rfl, rfl⟩
    refine gas rfl rfl <| gA <| Zr <| Zg <| Z7 (.inl rfl) Tryz.results6 rfl (VA _) ?_
    exact ⟨rfl, rfl⟩
  refine Ze rfl rfl <| Zk rfl (Zq rfl) <| Ze rfl rfl (Zk rfl (ZV rfl rfl) (Zx (fun h38 => ?_) (fun h38 => ?_)))
  · refine gr rfl (Zm rfl rfl) <| gm rfl rfl <| Zi rfl rfl rfl <| Zi rfl rfl rfl <| Zi rfl rfl rfl <| Zi rfl rfl rfl <| Zi rfl rfl rfl <| gr rfl (Zp rfl rfl) <| gm rfl rfl <| Zi rfl rfl rfl <| Zi rfl rfl rfl <| Zi rfl rfl rfl <| Zi rfl rfl rfl <| Zi rfl rfl rfl <| gr rfl (Zp rfl rfl) <| gm rfl rfl <| Zi rfl rfl rfl <| Zi rfl rfl rfl <| Zi rfl rfl rfl <| Zi rfl rfl rfl <| gr rfl (Zp rfl rfl) <| gm rfl rfl <| Zi rfl rfl rfl <| Zi rfl rfl rfl <| Zi rfl rfl rfl ?_
    refine Zi rfl rfl rfl <| gr rfl (Zp rfl rfl) <| gA <| Zl rfl <| Zb <| Za <| Zs (ZF rfl (vf := []) (vc := []) rfl rfl Tryz.call10 (fun w1 ho => WL w1) ?_)
    rintro _ _ ⟨rfl, rfl⟩
    refine gas rfl rfl <| gA <| Zr <| Zg <| Z7 (.inl rfl) Tryz.results6 rfl (VA _) ?_
    exact ⟨rfl, rfl⟩
  have hck : (Yn s).2 = 0 := by omega
  obtain ⟨hnd, hns, hnc⟩ := Zjk hck
  refine gr rfl (Zm rfl rfl) <| gm rfl rfl <| Ze rfl rfl (Zk rfl (Zv Tryz.underlying45 rfl Wk rfl (by exact ZG 3 (off := 0) (k := 4) rfl rfl) rfl) ?_)
  refine Ze rfl rfl <| Zk rfl (Zc rfl (Zem _)) <| Ze rfl rfl (Zk rfl (Zv Tryz.underlying26 rfl Z6 rfl (by exact ZG 2 (off := 4) (k := 2) rfl rfl) rfl) ?_)
  refine Ze rfl rfl (ZF rfl (vf := []) (vc := []) rfl rfl Tryz.call31 (fun w1 ho => J6 s hle hnd hns hnc w1 (hS.at ho) hck rs rc _ _ _ _ l5 l6 (g1.at ho) (g2.at ho)) ?_)
  rintro _ _ ⟨rfl, rfl⟩
  refine Ze rfl rfl (Zk rfl (ZV rfl rfl) (Zx (fun h45 => ?_) (fun h45 => ?_)))
  · refine gr rfl (Zm rfl rfl) <| gm rfl rfl <| Zi rfl rfl rfl <| Zi rfl rfl rfl <| Zi rfl rfl rfl <| Zi rfl rfl rfl <| Zi rfl rfl rfl <| gr rfl (Zp rfl rfl) <| gm rfl rfl <| Zi rfl rfl rfl <| Zi rfl rfl rfl <| Zi rfl rfl rfl <| Zi rfl rfl rfl <| gr rfl (Zp rfl rfl) <| gm rfl rfl <| Zi rfl rfl rfl <| Zi rfl rfl rfl <| Zi rfl rfl rfl <| Zi rfl rfl rfl <| gr rfl (Zp rfl rfl) <| gA <| Zl rfl <| Zb <| Za ?_
    refine Zs (ZF rfl (vf := []) (vc := []) rfl rfl Tryz.call10 (fun w1 ho => WL w1) ?_)
    rintro _ _ ⟨rfl, rfl⟩
    refine gas rfl rfl <| gA <| Zr <| Zg <| Z7 (.inl rfl) Tryz.results6 rfl (VA _) ?_
    exact ⟨rfl, rfl⟩
  refine gr rfl (Zm rfl rfl) <| gm rfl rfl <| Ze rfl rfl (Zk rfl (Zv Tryz.underlying45 rfl Wk rfl (by exact ZG 3 (off := 0) (k := 4) rfl rfl) rfl) ?_)
  refine Ze rfl rfl <| Zk rfl (Zc rfl (Znl _)) <| Ze rfl rfl (Zk rfl (Zv Tryz.underlying26 rfl Z6 rfl (by exact ZG 2 (off := 6) (k := 2) rfl rfl) rfl) ?_)
  refine Ze rfl rfl (ZF rfl (vf := []) (vc := []) rfl rfl Tryz.call31 (fun w1 ho => J6 s hle hnd hns hnc w1 (hS.at ho) hck ts tc _ _ _ _ l7 l8 (g3.at ho) (g4.at ho)) ?_)
  rintro _ _ ⟨rfl, rfl⟩
  refine Ze rfl rfl (Zk rfl (ZV rfl rfl) (Zx (fun h52 => ?_) (fun h52 => ?_)))
  · refine gr rfl (Zm rfl rfl) <| gm rfl rfl <| Zi rfl rfl rfl <| Zi rfl rfl rfl <| Zi rfl rfl rfl <| Zi rfl rfl rfl <| gr rfl (Zp rfl rfl) <| gm rfl rfl <| Zi rfl rfl rfl <| Zi rfl rfl rfl <| Zi rfl rfl rfl <| Zi rfl rfl rfl <| gr rfl (Zp rfl rfl) <| gA <| Zl rfl <| Zb <| Za <| Zs (ZF rfl (vf := []) (vc := []) rfl rfl Tryz.call10 (fun w1 ho => WL w1) ?_)
    rintro _ _ ⟨rfl, rfl⟩
    refine gas rfl rfl <| gA <| Zr <| Zg <| Z7 (.inl rfl) Tryz.results6 rfl (VA _) ?_
    exact ⟨rfl, rfl⟩
  refine gr rfl (Zm rfl rfl) <| gm rfl rfl <| Ze rfl rfl (Zk rfl (Zv Tryz.underlying45 rfl Wk rfl (by exact ZG 3 (off := 0) (k := 4) rfl rfl) rfl) ?_)
  refine Ze rfl rfl (Zk rfl (Zv Tryz.underlying26 rfl Z6 rfl (by exact ZG 1 (off := 0) (k := 2) rfl rfl) rfl) ?_)
  refine Ze rfl rfl (ZF rfl (vf := []) (vc := []) rfl rfl Tryz.call31 (fun w1 ho => J6 s hle hnd hns hnc w1 (hS.at ho) hck ws wc _ _ _ _ hw1 hw2 (h1.at ho) (h2.at ho)) ?_)
  rintro _ _ ⟨rfl, rfl⟩
  refine Ze rfl rfl (Zk rfl (ZV rfl rfl) (Zx (fun h58 => ?_) (fun h58 => ?_)))
  · refine gr rfl (Zm rfl rfl) <| gm rfl rfl <| Zi rfl rfl rfl <| Zi rfl rfl rfl <| Zi rfl rfl rfl <| Zi rfl rfl rfl <| gr rfl (Zp rfl rfl) <| gA <| Zl rfl <| Zb <| Za <| Zs (ZF rfl (vf := []) (vc := []) rfl rfl Tryz.call10 (fun w1 ho => WL w1) ?_)
    rintro _ _ ⟨rfl, rfl⟩
    refine gas rfl rfl <| gA <| Zr <| Zg <| Z7 (.inl rfl) Tryz.results6 rfl (VA _) ?_
    exact ⟨rfl, rfl⟩
  refine gr rfl (Zm rfl rfl) <| gm rfl rfl <| Ze rfl rfl <| Zk rfl (Zc rfl (YF _)) <| Ze rfl rfl (Zk rfl (Zj Tryz.underlying40 rfl rfl (by exact Zo 3 rfl rfl)) ?_)
  refine Ze rfl rfl <| Zk rfl (ZB Tryz.underlying40 rfl) <| Ze rfl rfl (Zk rfl (Yg rfl rfl) (Zx (fun h64 => ?_) (fun h64 => ?_)))
  · refine gr rfl (Zm rfl rfl) <| gA <| Zl rfl <| Zb <| Za <| Zs (ZF rfl (vf := []) (vc := []) rfl rfl Tryz.call10 (fun w1 ho => WL w1) ?_)
    rintro _ _ ⟨rfl, rfl⟩
    refine gas rfl rfl <| gA <| Zr <| Zg <| Z7 (.inl rfl) Tryz.results6 rfl (VA _) ?_
    exact ⟨rfl, rfl⟩
  obtain ⟨r, rfl, rfl, hrr⟩ := Zdt (show Y8 s.ss.length s.cs.length rs rc = 0 by omega)
  obtain ⟨t, rfl, rfl, hrt⟩ := Zdt (show Y8 s.ss.length s.cs.length ts tc = 0 by omega)
  obtain ⟨u, rfl, rfl, hru⟩ := Zdt (show Y8 s.ss.length s.cs.length ws wc = 0 by omega)
  rw [Z9] at g1 g2 g3 g4 h1 h2
  rw [Xc] at g1 g2 g3 g4 h1 h2
  simp only [Z9]
  have hm1 := Nat.mod_lt o1 (show 0 < s.ds.length by omega)
  have hm2 := Nat.mod_lt o2 (show 0 < s.ds.length by omega)
  have hm3 := Nat.mod_lt n1 (show 0 < 8 by decide)
  have hm4 := Nat.mod_lt n2 (show 0 < 8 by decide)
  have htri : Tri s ⟨1, -1, 1⟩ ⟨2, ((o1 % s.ds.length : Nat) : Int), ((1 + n1 % 8 : Nat) : Int)⟩ ⟨3, ((o2 % s.ds.length : Nat) : Int), ((1 + n2 % 8 : Nat) : Int)⟩ := tri_of (Int.natCast_nonneg _) (Int.ofNat_lt.2 hm1) (Int.natCast_nonneg _) (Int.ofNat_lt.2 hm2) (by omega) (by omega) (by omega) (by omega)
  refine gr rfl (Zm rfl rfl) <| gA <| Zn rfl <| Zu <| Zf <| Zb <| Za <| Zs (ZF rfl (vf := []) (vc := []) rfl rfl Tryz.call11 (fun w1 ho => Zlw 4 (by decide) (by decide) w1) ?_)
  rintro _ _ ⟨q, rfl, hn, rfl⟩
  refine JQ [] q.hl [_, _, _, _] <| gm rfl rfl <| gr rfl (ZA rfl rfl) <| gr rfl (ZA rfl rfl) <| gas rfl rfl <| gas rfl rfl <| gA <| Zb <| Za <| gm rfl rfl <| gr rfl (Zv Tryz.underlying45 rfl Wk rfl (by exact ZG 3 (off := 0) (k := 4) rfl rfl) rfl) ?_
  refine Zs (Yt [_, _, _, _] q.hl rfl rfl (vf := []) (vc := []) rfl rfl Tryz.call12 rfl (fun w how hc => Zeg q hn (by decide) _ w hc s hle (OrgIn.out (A := [_, _, _, _]) hS how)) ?_)
  rintro _ _ (⟨hck9, _⟩ | ⟨bp, c9, q2, V2, rfl, hp2, rfl⟩)
  · exact absurd hck hck9
  rw [← hp2.lk.bs, ← hp2.lk.bf]
  have hst2 := hp2.st
  have hlf2 := hp2.left hn
  have hcap2 : q2.cap = 20 := hp2.cap hn
  have htr : Tri (clS s c9) ⟨1, -1, 1⟩ ⟨2, ((o1 % s.ds.length : Nat) : Int), ((1 + n1 % 8 : Nat) : Int)⟩ ⟨3, ((o2 % s.ds.length : Nat) : Int), ((1 + n2 % 8 : Nat) : Int)⟩ := ⟨htri.g0, htri.a0, htri.b0, rfl, rfl, rfl, rfl, htri.ad, htri.bd⟩
  obtain ⟨one, hone⟩ : ∃ z, YK (clS s c9) ⟨2, ((o1 % s.ds.length : Nat) : Int), ((1 + n1 % 8 : Nat) : Int)⟩ (YG (clS s c9) ⟨2, ((o1 % s.ds.length : Nat) : Int), ((1 + n1 % 8 : Nat) : Int)⟩ r) u = z := ⟨_, rfl⟩
  have hrone : RgOk s.ss.length s.cs.length one := by rw [← hone]; exact Za6 (clS s c9) ⟨2, ((o1 % s.ds.length : Nat) : Int), ((1 + n1 % 8 : Nat) : Int)⟩ (YG (clS s c9) ⟨2, ((o1 % s.ds.length : Nat) : Int), ((1 + n1 % 8 : Nat) : Int)⟩ r) u
  obtain ⟨two, htwo⟩ : ∃ z, YK (clS s c9) ⟨3, ((o2 % s.ds.length : Nat) : Int), ((1 + n2 % 8 : Nat) : Int)⟩ (YG (clS s c9) ⟨3, ((o2 % s.ds.length : Nat) : Int), ((1 + n2 % 8 : Nat) : Int)⟩ t) u = z := ⟨_, rfl⟩
  have hrtwo : RgOk s.ss.length s.cs.length two := by rw [← htwo]; exact Za6 (clS s c9) ⟨3, ((o2 % s.ds.length : Nat) : Int), ((1 + n2 % 8 : Nat) : Int)⟩ (YG (clS s c9) ⟨3, ((o2 % s.ds.length : Nat) : Int), ((1 + n2 % 8 : Nat) : Int)⟩ t) u
  obtain ⟨both, hboth⟩ : ∃ z, YK (clS s c9) ⟨3, ((o2 % s.ds.length : Nat) : Int), ((1 + n2 % 8 : Nat) : Int)⟩ (YG (clS s c9) ⟨3, ((o2 % s.ds.length : Nat) : Int), ((1 + n2 % 8 : Nat) : Int)⟩ t) one = z := ⟨_, rfl⟩
  have hrboth : RgOk s.ss.length s.cs.length both := by rw [← hboth]; exact Za6 (clS s c9) ⟨3, ((o2 % s.ds.length : Nat) : Int), ((1 + n2 % 8 : Nat) : Int)⟩ (YG (clS s c9) ⟨3, ((o2 % s.ds.length : Nat) : Int), ((1 + n2 % 8 : Nat) : Int)⟩ t) one
  obtain ⟨other, hother⟩ : ∃ z, YK (clS s c9) ⟨2, ((o1 % s.ds.length : Nat) : Int), ((1 + n1 % 8 : Nat) : Int)⟩ (YG (clS s c9) ⟨2, ((o1 % s.ds.length : Nat) : Int), ((1 + n1 % 8 : Nat) : Int)⟩ r) two = z := ⟨_, rfl⟩
  have hrother : RgOk s.ss.length s.cs.length other := by rw [← hother]; exact Za6 (clS s c9) ⟨2, ((o1 % s.ds.length : Nat) : Int), ((1 + n1 % 8 : Nat) : Int)⟩ (YG (clS s c9) ⟨2, ((o1 % s.ds.length : Nat) : Int), ((1 + n1 % 8 : Nat) : Int)⟩ r) two
  have hagain : YK (clS s c9) ⟨2, ((o1 % s.ds.length : Nat) : Int), ((1 + n1 % 8 : Nat) : Int)⟩ (YG (clS s c9) ⟨2, ((o1 % s.ds.length : Nat) : Int), ((1 + n1 % 8 : Nat) : Int)⟩ r) one = one := by rw [← hone, Zc5]
  have hswap : ((o1 % s.ds.length : Nat) : Int) ≠ ((o2 % s.ds.length : Nat) : Int) → both = other := fun hd => by rw [← hboth, ← hother, ← hone, ← htwo]; exact htr.swap hd _ _ _
  obtain ⟨ls, hls⟩ : ∃ z, (((tri3 (clS s c9) ⟨1, -1, 1⟩ ⟨2, ((o1 % s.ds.length : Nat) : Int), ((1 + n1 % 8 : Nat) : Int)⟩ ⟨3, ((o2 % s.ds.length : Nat) : Int), ((1 + n2 % 8 : Nat) : Int)⟩ r t).2.filter fun p => litF (clS s c9) one p.1 p.2).map (·.1)) = z := ⟨_, rfl⟩
  have hmem : (⟨2, ((o1 % s.ds.length : Nat) : Int), ((1 + n1 % 8 : Nat) : Int)⟩ : Pis) ∈ ls := by rw [← hls, ← hone]; exact htr.lit u
  have hlen : ls.length ≤ 3 := by rw [← hls, List.length_map]; exact List.length_filter_le _ _
  refine gm rfl rfl <| gr rfl (ZA rfl rfl) <| gr rfl (ZA rfl rfl) <| gas rfl rfl <| gas rfl rfl <| gA <| Zb <| Zb <| Za <| gm rfl rfl <| gr rfl (ZV rfl rfl) (Zx (fun h78 => ?_) (fun h78 => ?_))
  · exact absurd rfl h78
  refine gA <| Zn rfl <| Zu <| Zf <| Zb <| Za <| gr rfl (ZO rfl (fun _ => WH _ _ _)) ?_
  refine Zs (ZP YT rfl rfl (fun b13 => ?_))
  refine Zs (Zz 0 YT rfl rfl rfl rfl rfl rfl (by rfl) ?_)
  refine gA <| Zb <| ZQ [0, 1, 2, 3, 4, 5, 6, 7, 8] false 14 rfl <| Zd 0 rfl rfl ⟨[0, 1, 2, 3, 4, 5, 6, 7, 8], by decide, rfl⟩ (Zh (Zc rfl (fa_87_0 _))) ?_
  refine Zd 1 rfl rfl ⟨[0, 1, 2, 3, 4, 5, 6, 7, 8], by decide, rfl⟩ (Zh (Zj Tryz.underlying5 rfl rfl (by exact Zo 3 rfl rfl))) ?_
  refine Zd 2 rfl rfl ⟨[0, 1, 2, 3, 4, 5, 6, 7, 8], by decide, rfl⟩ (Zh (YL Tryz.runUnderlying5 Tryz.runUnderlying3 rfl (Xt (by omega)))) ?_
  refine Zd 3 rfl rfl ⟨[0, 1, 2, 3, 4, 5, 6, 7, 8], by decide, rfl⟩ (Zh (Zc rfl (YF _))) ?_
  refine Zd 4 rfl rfl ⟨[0, 1, 2, 3, 4, 5, 6, 7, 8], by decide, rfl⟩ (Zh (Zj Tryz.underlying40 rfl rfl (by exact Zo 4 rfl rfl))) ?_
  refine Zd 5 rfl rfl ⟨[0, 1, 2, 3, 4, 5, 6, 7, 8], by decide, rfl⟩ (Zh (ZB Tryz.underlying40 rfl)) ?_
  refine Zd 6 rfl rfl ⟨[0, 1, 2, 3, 4, 5, 6, 7, 8], by decide, rfl⟩ (Zh (by exact X2 rfl rfl (by omega))) ?_
  refine Zd 7 rfl rfl ⟨[0, 1, 2, 3, 4, 5, 6, 7, 8], by decide, rfl⟩ (Zh (Zc rfl (fa_87_2 _))) ?_
  refine Zd 8 rfl rfl ⟨[0, 1, 2, 3, 4, 5, 6, 7, 8], by decide, rfl⟩ (Zh (Zj Tryz.underlying5 rfl rfl (by exact Zo 3 rfl rfl))) ?_
  refine Zd 9 rfl rfl ⟨[0, 1, 2, 3, 4, 5, 6, 7, 8], by decide, rfl⟩ (Zh (YL Tryz.runUnderlying5 Tryz.runUnderlying3 rfl (Xt (by omega)))) ?_
  refine Zd 10 rfl rfl ⟨[0, 1, 2, 3, 4, 5, 6, 7, 8], by decide, rfl⟩ (Zh (by exact X2 (b := 8) rfl rfl (by omega))) ?_
  refine Zd 11 rfl rfl ⟨[0, 1, 2, 3, 4, 5, 6, 7, 8], by decide, rfl⟩ (Zh (by exact ZK (a := 1) rfl rfl (by omega))) ?_
  refine Zd 12 rfl rfl ⟨[0, 1, 2, 3, 4, 5, 6, 7, 8], by decide, rfl⟩ (Zh (ZO rfl (fun _ => WH _ _ _))) ?_
  refine ZL 13 rfl (.inr ⟨[0, 1, 2, 3, 4, 5, 6, 7, 8], by decide, rfl⟩) (ZP YT rfl rfl (fun b14 => ?_))
  refine ZL 14 rfl (.inr ⟨[1, 2, 3, 4, 5, 6, 7, 8, 9], by decide, rfl⟩) (Zz 0 YT rfl rfl rfl rfl rfl rfl (by rfl) ?_)
  refine ZR (.inl (by kernel_rfl)) ?_
  refine Zf <| Zb <| ZQ [0, 1, 2, 3, 4, 5, 6, 7, 8, 9] false 14 rfl <| Zd 0 rfl rfl ⟨[0, 1, 2, 3, 4, 5, 6, 7, 8, 9], by decide, rfl⟩ (Zh (Zc rfl (fa_87_1 _))) ?_
  refine Zd 1 rfl rfl ⟨[0, 1, 2, 3, 4, 5, 6, 7, 8, 9], by decide, rfl⟩ (Zh (Zj Tryz.underlying5 rfl rfl (by exact Zo 4 rfl rfl))) ?_
  refine Zd 2 rfl rfl ⟨[0, 1, 2, 3, 4, 5, 6, 7, 8, 9], by decide, rfl⟩ (Zh (YL Tryz.runUnderlying5 Tryz.runUnderlying3 rfl (Xt (by omega)))) ?_
  refine Zd 3 rfl rfl ⟨[0, 1, 2, 3, 4, 5, 6, 7, 8, 9], by decide, rfl⟩ (Zh (Zc rfl (YF _))) ?_
  refine Zd 4 rfl rfl ⟨[0, 1, 2, 3, 4, 5, 6, 7, 8, 9], by decide, rfl⟩ (Zh (Zj Tryz.underlying40 rfl rfl (by exact Zo 5 rfl rfl))) ?_
  refine Zd 5 rfl rfl ⟨[0, 1, 2, 3, 4, 5, 6, 7, 8, 9], by decide, rfl⟩ (Zh (ZB Tryz.underlying40 rfl)) ?_
  refine Zd 6 rfl rfl ⟨[0, 1, 2, 3, 4, 5, 6, 7, 8, 9], by decide, rfl⟩ (Zh (by exact X2 rfl rfl (by omega))) ?_
  refine Zd 7 rfl rfl ⟨[0, 1, 2, 3, 4, 5, 6, 7, 8, 9], by decide, rfl⟩ (Zh (Zc rfl (fa_87_3 _))) ?_
  refine Zd 8 rfl rfl ⟨[0, 1, 2, 3, 4, 5, 6, 7, 8, 9], by decide, rfl⟩ (Zh (Zj Tryz.underlying5 rfl rfl (by exact Zo 4 rfl rfl))) ?_
  refine Zd 9 rfl rfl ⟨[0, 1, 2, 3, 4, 5, 6, 7, 8, 9], by decide, rfl⟩ (Zh (YL Tryz.runUnderlying5 Tryz.runUnderlying3 rfl (Xt (by omega)))) ?_
  refine Zd 10 rfl rfl ⟨[0, 1, 2, 3, 4, 5, 6, 7, 8, 9], by decide, rfl⟩ (Zh (by exact X2 (b := 8) rfl rfl (by omega))) ?_
  refine Zd 11 rfl rfl ⟨[0, 1, 2, 3, 4, 5, 6, 7, 8, 9], by decide, rfl⟩ (Zh (by exact ZK (a := 1) rfl rfl (by omega))) ?_
  refine Zd 12 rfl rfl ⟨[0, 1, 2, 3, 4, 5, 6, 7, 8, 9], by decide, rfl⟩ (Zh (ZO rfl (fun _ => WH _ _ _))) ?_
  refine ZL 13 rfl (.inr ⟨[0, 1, 2, 3, 4, 5, 6, 7, 8, 9], by decide, rfl⟩) (ZP YT rfl rfl (fun b15 => ?_))
  refine ZL 14 rfl (.inr ⟨[1, 2, 3, 4, 5, 6, 7, 8, 9, 10], by decide, rfl⟩) (Zz 0 YT rfl rfl rfl rfl rfl rfl (by rfl) ?_)
  refine ZR (.inl (by kernel_rfl)) ?_
  refine Zf <| Zb <| Zb <| Za <| gm rfl rfl <| gr rfl (Zv Tryz.underlying23 rfl YT rfl (by exact ZG 2 (off := 0) (k := 3) rfl rfl) rfl) ?_
  refine gr rfl (Zc rfl (Zem _)) <| gr rfl (Zv Tryz.underlying26 rfl Z6 rfl (by exact ZG 5 (off := 4) (k := 2) rfl rfl) rfl) ?_
  refine Zs (Yt [_, _, _, _, _, _, _, _, _, _, _] q2.hl rfl rfl (vf := []) (vc := []) rfl rfl Tryz.call19 rfl (fun w how hc => Zjn q2 V2 2 (clS s c9) _ hst2 _ w hc (by decide) bp (Vt (A := [_, _, _, _, _, _, _, _, _, _, _]) how 7 9 10 rfl rfl rfl hp2.nd hp2.ns hp2.nc) hlf2 ⟨1, -1, 1⟩ r _ _ _ _ (Xi hrr hp2.ns) (Xj hrr hp2.nc) (g1.atTail (A := [_, _, _, _, _, _, _, _, _, _, _]) how (by decide)) (g2.atTail (A := [_, _, _, _, _, _, _, _, _, _, _]) how (by decide)) _ (by rw [hcap2]; exact htr.set1 hrr (by decide))) ?_)
  rintro _ _ ⟨q3, V3, rfl, rfl, hlk3, hst3⟩
  have hlf3 := hlk3.no hlf2
  have hcap3 := hlk3.cap.trans hcap2
  rw [← hlk3.bs]
  refine gr rfl (ZV rfl rfl) (Zx (fun h111 => ?_) (fun h111 => ?_))
  · exact absurd rfl h111
  refine gm rfl rfl <| Ze rfl rfl <| Zk rfl (Zq rfl) <| Ze rfl rfl (Zk rfl (Zv Tryz.underlying23 rfl YT rfl (by exact ZG 1 (off := 0) (k := 3) rfl rfl) rfl) ?_)
  refine Ze rfl rfl <| Zk rfl (Zc rfl (Zem _)) <| Ze rfl rfl (Zk rfl (Zv Tryz.underlying26 rfl Z6 rfl (by exact ZG 5 (off := 4) (k := 2) rfl rfl) rfl) ?_)
  refine Ze rfl rfl (Yt [_, _, _, _, _, _, _, _, _, _, _] q3.hl rfl rfl (vf := []) (vc := []) rfl rfl Tryz.call19 rfl (fun w how hc => Zjn q3 V3 3 (clS s c9) _ hst3 _ w hc (by decide) bp (Vt (A := [_, _, _, _, _, _, _, _, _, _, _]) how 7 9 10 rfl rfl rfl hp2.nd hp2.ns hp2.nc) hlf3 ⟨2, ((o1 % s.ds.length : Nat) : Int), ((1 + n1 % 8 : Nat) : Int)⟩ r _ _ _ _ (Xi hrr hp2.ns) (Xj hrr hp2.nc) (g1.atTail (A := [_, _, _, _, _, _, _, _, _, _, _]) how (by decide)) (g2.atTail (A := [_, _, _, _, _, _, _, _, _, _, _]) how (by decide)) _ (by rw [hcap3]; exact htr.set2 hrr (by decide))) ?_)
  rintro _ _ ⟨q4, V4, rfl, rfl, hlk4, hst4⟩
  have hlf4 := hlk4.no hlf3
  have hcap4 := hlk4.cap.trans hcap3
  rw [← hlk4.bs]
  refine Ze rfl rfl (Zk rfl (ZV rfl rfl) (Zx (fun h118 => ?_) (fun h118 => ?_)))
  · exact absurd rfl h118
  refine gr rfl (Zm rfl rfl) <| gm rfl rfl <| Ze rfl rfl <| Zk rfl (Zq rfl) <| Ze rfl rfl (Zk rfl (Zv Tryz.underlying23 rfl YT rfl (by exact ZG 0 (off := 0) (k := 3) rfl rfl) rfl) ?_)
  refine Ze rfl rfl <| Zk rfl (Zc rfl (Znl _)) <| Ze rfl rfl (Zk rfl (Zv Tryz.underlying26 rfl Z6 rfl (by exact ZG 5 (off := 6) (k := 2) rfl rfl) rfl) ?_)
  refine Ze rfl rfl (Yt [_, _, _, _, _, _, _, _, _, _, _] q4.hl rfl rfl (vf := []) (vc := []) rfl rfl Tryz.call19 rfl (fun w how hc => Zjn q4 V4 4 (clS s c9) _ hst4 _ w hc (by decide) bp (Vt (A := [_, _, _, _, _, _, _, _, _, _, _]) how 7 9 10 rfl rfl rfl hp2.nd hp2.ns hp2.nc) hlf4 ⟨3, ((o2 % s.ds.length : Nat) : Int), ((1 + n2 % 8 : Nat) : Int)⟩ t _ _ _ _ (Xi hrt hp2.ns) (Xj hrt hp2.nc) (g3.atTail (A := [_, _, _, _, _, _, _, _, _, _, _]) how (by decide)) (g4.atTail (A := [_, _, _, _, _, _, _, _, _, _, _]) how (by decide)) _ (by rw [hcap4]; exact htr.set3 hrt (by decide))) ?_)
  rintro _ _ ⟨q5, V5, rfl, rfl, hlk5, hst5⟩
  have hlf5 := hlk5.no hlf4
  have hcap5 := hlk5.cap.trans hcap4
  rw [← hlk5.bs]
  refine Ze rfl rfl (Zk rfl (ZV rfl rfl) (Zx (fun h126 => ?_) (fun h126 => ?_)))
  · exact absurd rfl h126
  refine gr rfl (Zm rfl rfl) <| gA <| Zn rfl <| Zu <| Zf <| Zb <| Za <| gm rfl rfl <| gr rfl (Zv Tryz.underlying23 rfl YT rfl (by exact ZG 2 (off := 0) (k := 3) rfl rfl) rfl) ?_
  refine gr rfl (Zv Tryz.underlying26 rfl Z6 rfl (by exact ZG 4 (off := 0) (k := 2) rfl rfl) rfl) ?_
  refine Zs (Yt [_, _, _, _, _, _, _, _, _, _, _] q5.hl rfl rfl (vf := []) (vc := []) rfl rfl Tryz.call16 rfl (fun w how hc => VF q5 V5 5 (clS s c9) _ hst5 _ w hc (by decide) bp (Vt (A := [_, _, _, _, _, _, _, _, _, _, _]) how 7 9 10 rfl rfl rfl hp2.nd hp2.ns hp2.nc) ⟨1, -1, 1⟩ u _ _ _ _ (Xi hru hp2.ns) (Xj hru hp2.nc) (h1.atTail (A := [_, _, _, _, _, _, _, _, _, _, _]) how (by decide)) (h2.atTail (A := [_, _, _, _, _, _, _, _, _, _, _]) how (by decide)) r 0 (by rw [XX htr.g0 hru (htr.place r t).1, htr.pressG hrr])) ?_)
  rintro _ _ ⟨r132, d132, s132, e132, rfl, rfl⟩
  refine gm rfl rfl <| gr rfl (ZA rfl rfl) <| gr rfl (ZA rfl rfl) <| Zs (ZP Z6 rfl rfl (fun b16 => ?_))
  refine Zs (Zz 0 Z6 rfl rfl rfl rfl rfl rfl (by rfl) ?_)
  refine gas rfl rfl <| gA <| Zb <| Zb <| Za <| gm rfl rfl <| gr rfl (ZV rfl rfl) (Zx (fun h136 => ?_) (fun h136 => ?_))
  · exact absurd rfl h136
  refine gm rfl rfl <| Ze rfl rfl (Zk rfl (Zv Tryz.underlying26 rfl Z6 rfl (by exact ZG 0 (off := 0) (k := 2) rfl rfl) rfl) ?_)
  refine Ze rfl rfl <| Zk rfl (Zc rfl (Zem _)) <| Ze rfl rfl (Zk rfl (Zv Tryz.underlying26 rfl Z6 rfl (by exact ZG 6 (off := 4) (k := 2) rfl rfl) rfl) ?_)
  refine Ze rfl rfl (ZF rfl (vf := []) (vc := []) rfl rfl Tryz.call32 (fun w1 ho => Zc3 r r _ _ _ _ _ _ _ _ (Nat.le_trans (Xi hrr hp2.ns) (by decide)) (Nat.le_trans (Xj hrr hp2.nc) (by decide)) w1 (ho.rowSl 12 rfl) (ho.rowSl 13 rfl) (g1.at ho) (g2.at ho)) ?_)
  rintro _ _ ⟨rfl, rfl⟩
  rw [decide_eq_true (rfl : r.1 = r.1), decide_eq_true (rfl : r.2 = r.2)]
  refine Ze rfl rfl <| Zk rfl (rd_not rfl) <| gr rfl (Zm rfl rfl) <| gA <| Zn rfl <| Zu <| Zf <| Zb <| Za <| gm rfl rfl <| gr rfl (Zv Tryz.underlying23 rfl YT rfl (by exact ZG 2 (off := 0) (k := 3) rfl rfl) rfl) ?_
  refine gr rfl (Zv Tryz.underlying26 rfl Z6 rfl (by exact ZG 5 (off := 0) (k := 2) rfl rfl) rfl) ?_
  refine Zs (Yt [_, _, _, _, _, _, _, _, _, _, _, _, _, _] q5.hl rfl rfl (vf := []) (vc := []) rfl rfl Tryz.call16 rfl (fun w how hc => VF q5 V5 5 (clS s c9) _ hst5 _ w hc (by decide) bp (Vt (A := [_, _, _, _, _, _, _, _, _, _, _, _, _, _]) how 8 10 11 rfl rfl rfl hp2.nd hp2.ns hp2.nc) ⟨2, ((o1 % s.ds.length : Nat) : Int), ((1 + n1 % 8 : Nat) : Int)⟩ u _ _ _ _ (Xi hru hp2.ns) (Xj hru hp2.nc) (h1.atTail (A := [_, _, _, _, _, _, _, _, _, _, _, _, _, _]) how (by decide)) (h2.atTail (A := [_, _, _, _, _, _, _, _, _, _, _, _, _, _]) how (by decide)) one 0 (by rw [XX htr.a0 hru (htr.place r t).2.1, hone])) ?_)
  rintro _ _ ⟨r148, d148, s148, e148, rfl, rfl⟩
  refine gm rfl rfl <| gr rfl (ZA rfl rfl) <| gr rfl (ZA rfl rfl) <| Zs (ZP Z6 rfl rfl (fun b17 => ?_))
  refine Zs (Zz 0 Z6 rfl rfl rfl rfl rfl rfl (by rfl) ?_)
  refine gas rfl rfl <| gA <| Zb <| Za <| gm rfl rfl <| gr rfl (Zv Tryz.underlying23 rfl YT rfl (by exact ZG 2 (off := 0) (k := 3) rfl rfl) rfl) ?_
  refine gr rfl (Zv Tryz.underlying26 rfl Z6 rfl (by exact ZG 0 (off := 0) (k := 2) rfl rfl) rfl) ?_
  refine Zs (Yt [_, _, _, _, _, _, _, _, _, _, _, _, _, _, _, _, _] q5.hl rfl rfl (vf := []) (vc := []) rfl rfl Tryz.call16 rfl (fun w how hc => VF q5 V5 5 (clS s c9) _ hst5 _ w hc (by decide) bp (Vt (A := [_, _, _, _, _, _, _, _, _, _, _, _, _, _, _, _, _]) how 9 11 12 rfl rfl rfl hp2.nd hp2.ns hp2.nc) ⟨3, ((o2 % s.ds.length : Nat) : Int), ((1 + n2 % 8 : Nat) : Int)⟩ one _ _ _ _ (Xi hrone hp2.ns) (Xj hrone hp2.nc) (how.rowSlT (A := [_, _, _, _, _, _, _, _, _, _, _, _, _, _, _, _, _]) 15 rfl) (how.rowSlT (A := [_, _, _, _, _, _, _, _, _, _, _, _, _, _, _, _, _]) 16 rfl) both 0 (by rw [XX htr.b0 hrone (htr.place r t).2.2, hboth])) ?_)
  rintro _ _ ⟨r155, d155, s155, e155, rfl, rfl⟩
  refine gm rfl rfl <| gr rfl (ZA rfl rfl) <| gr rfl (ZA rfl rfl) <| Zs (ZP Z6 rfl rfl (fun b18 => ?_))
  refine Zs (Zz 0 Z6 rfl rfl rfl rfl rfl rfl (by rfl) ?_)
  refine gas rfl rfl <| gA <| Zb <| Za <| gm rfl rfl <| gr rfl (Zv Tryz.underlying23 rfl YT rfl (by exact ZG 3 (off := 0) (k := 3) rfl rfl) rfl) ?_
  refine gr rfl (Zv Tryz.underlying26 rfl Z6 rfl (by exact ZG 7 (off := 0) (k := 2) rfl rfl) rfl) ?_
  refine Zs (Yt [_, _, _, _, _, _, _, _, _, _, _, _, _, _, _, _, _, _, _, _] q5.hl rfl rfl (vf := []) (vc := []) rfl rfl Tryz.call16 rfl (fun w how hc => VF q5 V5 5 (clS s c9) _ hst5 _ w hc (by decide) bp (Vt (A := [_, _, _, _, _, _, _, _, _, _, _, _, _, _, _, _, _, _, _, _]) how 10 12 13 rfl rfl rfl hp2.nd hp2.ns hp2.nc) ⟨3, ((o2 % s.ds.length : Nat) : Int), ((1 + n2 % 8 : Nat) : Int)⟩ u _ _ _ _ (Xi hru hp2.ns) (Xj hru hp2.nc) (h1.atTail (A := [_, _, _, _, _, _, _, _, _, _, _, _, _, _, _, _, _, _, _, _]) how (by decide)) (h2.atTail (A := [_, _, _, _, _, _, _, _, _, _, _, _, _, _, _, _, _, _, _, _]) how (by decide)) two 0 (by rw [XX htr.b0 hru (htr.place r t).2.2, htwo])) ?_)
  rintro _ _ ⟨r162, d162, s162, e162, rfl, rfl⟩
  refine gm rfl rfl <| gr rfl (ZA rfl rfl) <| gr rfl (ZA rfl rfl) <| Zs (ZP Z6 rfl rfl (fun b19 => ?_))
  refine Zs (Zz 0 Z6 rfl rfl rfl rfl rfl rfl (by rfl) ?_)
  refine gas rfl rfl <| gA <| Zb <| Za <| gm rfl rfl <| gr rfl (Zv Tryz.underlying23 rfl YT rfl (by exact ZG 5 (off := 0) (k := 3) rfl rfl) rfl) ?_
  refine gr rfl (Zv Tryz.underlying26 rfl Z6 rfl (by exact ZG 0 (off := 0) (k := 2) rfl rfl) rfl) ?_
  refine Zs (Yt [_, _, _, _, _, _, _, _, _, _, _, _, _, _, _, _, _, _, _, _, _, _, _] q5.hl rfl rfl (vf := []) (vc := []) rfl rfl Tryz.call16 rfl (fun w how hc => VF q5 V5 5 (clS s c9) _ hst5 _ w hc (by decide) bp (Vt (A := [_, _, _, _, _, _, _, _, _, _, _, _, _, _, _, _, _, _, _, _, _, _, _]) how 11 13 14 rfl rfl rfl hp2.nd hp2.ns hp2.nc) ⟨2, ((o1 % s.ds.length : Nat) : Int), ((1 + n1 % 8 : Nat) : Int)⟩ two _ _ _ _ (Xi hrtwo hp2.ns) (Xj hrtwo hp2.nc) (how.rowSlT (A := [_, _, _, _, _, _, _, _, _, _, _, _, _, _, _, _, _, _, _, _, _, _, _]) 21 rfl) (how.rowSlT (A := [_, _, _, _, _, _, _, _, _, _, _, _, _, _, _, _, _, _, _, _, _, _, _]) 22 rfl) other 0 (by rw [XX htr.a0 hrtwo (htr.place r t).2.1, hother])) ?_)
  rintro _ _ ⟨r169, d169, s169, e169, rfl, rfl⟩
  refine gm rfl rfl <| gr rfl (ZA rfl rfl) <| gr rfl (ZA rfl rfl) <| Zs (ZP Z6 rfl rfl (fun b21 => ?_))
  refine Zs (Zz 0 Z6 rfl rfl rfl rfl rfl rfl (by rfl) ?_)
  refine gas rfl rfl <| gA <| Zb <| Za <| gm rfl rfl <| gr rfl (Zv Tryz.underlying23 rfl YT rfl (by exact ZG 6 (off := 0) (k := 3) rfl rfl) rfl) ?_
  refine gr rfl (Zv Tryz.underlying26 rfl Z6 rfl (by exact ZG 3 (off := 0) (k := 2) rfl rfl) rfl) ?_
  refine Zs (Yt [_, _, _, _, _, _, _, _, _, _, _, _, _, _, _, _, _, _, _, _, _, _, _, _, _, _] q5.hl rfl rfl (vf := []) (vc := []) rfl rfl Tryz.call16 rfl (fun w how hc => VF q5 V5 5 (clS s c9) _ hst5 _ w hc (by decide) bp (Vt (A := [_, _, _, _, _, _, _, _, _, _, _, _, _, _, _, _, _, _, _, _, _, _, _, _, _, _]) how 12 14 15 rfl rfl rfl hp2.nd hp2.ns hp2.nc) ⟨2, ((o1 % s.ds.length : Nat) : Int), ((1 + n1 % 8 : Nat) : Int)⟩ one _ _ _ _ (Xi hrone hp2.ns) (Xj hrone hp2.nc) (how.rowSlT (A := [_, _, _, _, _, _, _, _, _, _, _, _, _, _, _, _, _, _, _, _, _, _, _, _, _, _]) 18 rfl) (how.rowSlT (A := [_, _, _, _, _, _, _, _, _, _, _, _, _, _, _, _, _, _, _, _, _, _, _, _, _, _]) 19 rfl) one 0 (by rw [XX htr.a0 hrone (htr.place r t).2.1, hagain])) ?_)
  rintro _ _ ⟨r176, d176, s176, e176, rfl, rfl⟩
  refine gm rfl rfl <| gr rfl (ZA rfl rfl) <| gr rfl (ZA rfl rfl) <| Zs (ZP Z6 rfl rfl (fun b23 => ?_))
  refine Zs (Zz 0 Z6 rfl rfl rfl rfl rfl rfl (by rfl) ?_)
  refine gas rfl rfl <| gA <| Zb <| Za <| gm rfl rfl <| gr rfl (Zv Tryz.underlying26 rfl Z6 rfl (by exact ZG 4 (off := 0) (k := 2) rfl rfl) rfl) ?_
  refine Zs (Yt [_, _, _, _, _, _, _, _, _, _, _, _, _, _, _, _, _, _, _, _, _, _, _, _, _, _, _, _, _] q5.hl rfl rfl (vf := []) (vc := []) rfl rfl Tryz.call18 rfl (fun w how hc => LitN_ok q5 V5 5 (clS s c9) _ hst5 _ w hc (by decide) bp (Vt (A := [_, _, _, _, _, _, _, _, _, _, _, _, _, _, _, _, _, _, _, _, _, _, _, _, _, _, _, _, _]) how 13 15 16 rfl rfl rfl hp2.nd hp2.ns hp2.nc) one _ _ _ _ (Xi hrone hp2.ns) (Xj hrone hp2.nc) (how.rowSlT (A := [_, _, _, _, _, _, _, _, _, _, _, _, _, _, _, _, _, _, _, _, _, _, _, _, _, _, _, _, _]) 19 rfl) (how.rowSlT (A := [_, _, _, _, _, _, _, _, _, _, _, _, _, _, _, _, _, _, _, _, _, _, _, _, _, _, _, _, _]) 20 rfl) ls 0 (by rw [Zpj (s := (clS s c9)) hrone, hls])) ?_)
  rintro _ _ ⟨rL, dL, rfl, rfl⟩
  refine gm rfl rfl <| gr rfl (ZA rfl rfl) <| gr rfl (ZA rfl rfl) <| gas rfl rfl <| gas rfl rfl <| gA <| Zb <| Zb <| Za <| gm rfl rfl <| gr rfl (ZV rfl rfl) (Zx (fun h186 => ?_) (fun h186 => ?_))
  · exact absurd rfl h186
  refine gm rfl rfl <| Ze rfl rfl <| Zk rfl (Zq rfl) <| Ze rfl rfl (Zk rfl (ZV rfl rfl) (Zx (fun h189 => ?_) (fun h189 => ?_)))
  · exact absurd rfl h189
  refine gr rfl (Zm rfl rfl) <| gm rfl rfl <| Ze rfl rfl <| Zk rfl (Zq rfl) <| Ze rfl rfl (Zk rfl (ZV rfl rfl) (Zx (fun h193 => ?_) (fun h193 => ?_)))
  · exact absurd rfl h193
  refine gr rfl (Zm rfl rfl) <| gm rfl rfl <| Ze rfl rfl <| Zk rfl (Zq rfl) <| Ze rfl rfl (Zk rfl (ZV rfl rfl) (Zx (fun h197 => ?_) (fun h197 => ?_)))
  · exact absurd rfl h197
  refine gr rfl (Zm rfl rfl) <| gm rfl rfl <| Ze rfl rfl <| Zk rfl (Zq rfl) <| Ze rfl rfl (Zk rfl (ZV rfl rfl) (Zx (fun h201 => ?_) (fun h201 => ?_)))
  · exact absurd rfl h201
  refine gr rfl (Zm rfl rfl) <| gm rfl rfl <| Ze rfl rfl <| Zk rfl (Zq rfl) <| Ze rfl rfl (Zk rfl (ZV rfl rfl) (Zx (fun h205 => ?_) (fun h205 => ?_)))
  · exact absurd rfl h205
  refine gr rfl (Zm rfl rfl) <| gm rfl rfl <| Ze rfl rfl (Zk rfl (Zv Tryz.underlying26 rfl Z6 rfl (by exact ZG 0 (off := 0) (k := 2) rfl rfl) rfl) ?_)
  refine Ze rfl rfl (Zk rfl (Zv Tryz.underlying26 rfl Z6 rfl (by exact ZG 4 (off := 0) (k := 2) rfl rfl) rfl) ?_)
  refine Ze rfl rfl (ZF rfl (vf := []) (vc := []) rfl rfl Tryz.call32 (fun w1 ho => Zc3 one one _ _ _ _ _ _ _ _ (Nat.le_trans (Xi hrone hp2.ns) (by decide)) (Nat.le_trans (Xj hrone hp2.nc) (by decide)) w1 (ho.rowSl 27 rfl) (ho.rowSl 28 rfl) (ho.rowSl 19 rfl) (ho.rowSl 20 rfl)) ?_)
  rintro _ _ ⟨rfl, rfl⟩
  rw [decide_eq_true (rfl : one.1 = one.1), decide_eq_true (rfl : one.2 = one.2)]
  refine Ze rfl rfl <| Zk rfl (rd_not rfl) <| gr rfl (Zm rfl rfl) <| gm rfl rfl <| Ze rfl rfl <| Zk rfl (Zc rfl (Wh _)) <| Ze rfl rfl (Zk rfl (Zj Tryz.underlying3 rfl rfl (by exact Zo 7 rfl rfl)) ?_)
  refine Ze rfl rfl <| Zk rfl (Zc rfl (Wh _)) <| Ze rfl rfl (Zk rfl (Zj Tryz.underlying3 rfl rfl (by exact Zo 6 rfl rfl)) ?_)
  refine Ze rfl rfl (Zk rfl (ZV rfl rfl) (Zx (fun h218 => ?_) (fun h218 => ?_)))
  · refine Ze rfl rfl <| Zk rfl (Zq rfl) <| Ze rfl rfl (Zk rfl (Zv Tryz.underlying26 rfl Z6 rfl (by exact ZG 3 (off := 0) (k := 2) rfl rfl) rfl) ?_)
    refine Ze rfl rfl (Zk rfl (Zv Tryz.underlying26 rfl Z6 rfl (by exact ZG 1 (off := 0) (k := 2) rfl rfl) rfl) ?_)
    refine Ze rfl rfl (ZF rfl (vf := []) (vc := []) rfl rfl Tryz.call32 (fun w1 ho => Zc3 both other _ _ _ _ _ _ _ _ (Nat.le_trans (Xi hrboth hp2.ns) (by decide)) (Nat.le_trans (Xj hrboth hp2.nc) (by decide)) w1 (ho.rowSl 21 rfl) (ho.rowSl 22 rfl) (ho.rowSl 25 rfl) (ho.rowSl 26 rfl)) ?_)
    rintro _ _ ⟨rfl, rfl⟩
    rw [hswap h218, decide_eq_true (rfl : other.1 = other.1), decide_eq_true (rfl : other.2 = other.2)]
    refine Ze rfl rfl <| Zk rfl (rd_not rfl) <| Ze rfl rfl <| Zk rfl (Zp rfl rfl) <| gr rfl (Zm rfl rfl) <| gA <| Zn rfl <| Zu <| Zf <| Zb <| Za <| gas rfl rfl <| gA <| Zb <| Zb <| Za <| gas rfl rfl <| gA <| ZD <| ZY (ι := Nat × Bool) [(14, _), (25, _)] (_ :: _ :: _ :: _ :: _ :: _ :: _ :: _ :: _ :: _ :: _ :: _ :: _ :: _ :: _ :: _ :: _ :: _ :: _ :: _ :: _ :: _ :: _ :: _ :: _ :: _ :: _ :: _ :: _ :: _ :: q5.hl) (fun q => q.1 ≤ ls.length ∧ q.2 = decide ((⟨2, ((o1 % s.ds.length : Nat) : Int), ((1 + n1 % 8 : Nat) : Int)⟩ : Pis) ∈ ls.take q.1)) (fun q Fr0 => ((27, .bool q.2) :: (28, natV q.1) :: Fr0)) (fun q Fr0 => Fr0) (fun q => ls.length - q.1) (0, false) (⟨Nat.zero_le _, by simp⟩) ⟨rfl, rfl, rfl, rfl, trivial⟩ (Yx 0 rfl) ?_
    rintro ⟨k, fb⟩ ⟨hk, hfb⟩
    simp only at hk hfb ⊢
    refine Zb <| Zb <| Za <| gm rfl rfl <| gm rfl rfl <| gr rfl (ZB Tryz.underlying56 rfl) <| gr rfl (Z1 rfl rfl) (Zx (fun h229 => ?_) (fun h229 => ?_))
    · obtain ⟨u9, hu9⟩ := get_some (show k < ls.length by omega)
      refine gA <| Zl rfl <| Zu <| Zf <| Zb <| ZD <| ZQ [0, 1, 2, 3, 4, 5, 6, 7, 8, 9, 10, 11, 12, 13, 14, 15, 16, 17, 18, 19, 20, 21, 22, 23, 24, 25, 26, 27, 28, 29] true 9 rfl <| Zd 0 rfl rfl ⟨[0, 1, 2, 3, 4, 5, 6, 7, 8, 9, 10, 11, 12, 13, 14, 15, 16, 17, 18, 19, 20, 21, 22, 23, 24, 25, 26, 27, 28, 29], by decide, rfl⟩ (Zh (Zq rfl)) ?_
      refine Zd 1 rfl rfl ⟨[0, 1, 2, 3, 4, 5, 6, 7, 8, 9, 10, 11, 12, 13, 14, 15, 16, 17, 18, 19, 20, 21, 22, 23, 24, 25, 26, 27, 28, 29], by decide, rfl⟩ (Zh (Zq rfl)) ?_
      refine ZW (fun h233 => ?_) (fun h233 => ?_)
      · refine ZH 2 rfl rfl rfl rfl rfl ⟨[0, 1, 2, 3, 4, 5, 6, 7, 8, 9, 10, 11, 12, 13, 14, 15, 16, 17, 18, 19, 20, 21, 22, 23, 24, 25, 26, 27, 28, 29], by decide, rfl⟩ ?_
        refine ZH 3 rfl rfl rfl rfl rfl ⟨[0, 1, 2, 3, 4, 5, 6, 7, 8, 9, 10, 11, 12, 13, 14, 15, 16, 17, 18, 19, 20, 21, 22, 23, 24, 25, 26, 27, 28, 29], by decide, rfl⟩ ?_
        refine ZH 4 rfl rfl rfl rfl rfl ⟨[0, 1, 2, 3, 4, 5, 6, 7, 8, 9, 10, 11, 12, 13, 14, 15, 16, 17, 18, 19, 20, 21, 22, 23, 24, 25, 26, 27, 28, 29], by decide, rfl⟩ ?_
        refine ZH 5 rfl rfl rfl rfl rfl ⟨[0, 1, 2, 3, 4, 5, 6, 7, 8, 9, 10, 11, 12, 13, 14, 15, 16, 17, 18, 19, 20, 21, 22, 23, 24, 25, 26, 27, 28, 29], by decide, rfl⟩ ?_
        refine ZH 6 rfl rfl rfl rfl rfl ⟨[0, 1, 2, 3, 4, 5, 6, 7, 8, 9, 10, 11, 12, 13, 14, 15, 16, 17, 18, 19, 20, 21, 22, 23, 24, 25, 26, 27, 28, 29], by decide, rfl⟩ ?_
        refine ZH 7 rfl rfl rfl rfl rfl ⟨[0, 1, 2, 3, 4, 5, 6, 7, 8, 9, 10, 11, 12, 13, 14, 15, 16, 17, 18, 19, 20, 21, 22, 23, 24, 25, 26, 27, 28, 29], by decide, rfl⟩ ?_
        refine Zd 8 rfl rfl ⟨[0, 1, 2, 3, 4, 5, 6, 7, 8, 9, 10, 11, 12, 13, 14, 15, 16, 17, 18, 19, 20, 21, 22, 23, 24, 25, 26, 27, 28, 29], by decide, rfl⟩ (Zh (Zp rfl rfl)) ?_
        refine Zd 9 rfl rfl ⟨[0, 1, 2, 3, 4, 5, 6, 7, 8, 9, 10, 11, 12, 13, 14, 15, 16, 17, 18, 19, 20, 21, 22, 23, 24, 25, 26, 27, 28, 29], by decide, rfl⟩ (Zh (ZX rfl)) ?_
        refine ZR (.inr ⟨[0, 1, 2, 3, 4, 5, 6, 7, 8, 9, 10, 11, 12, 13, 14, 15, 16, 17, 18, 19, 20, 21, 22, 23, 24, 25, 26, 27, 28, 29], by decide, rfl⟩) ?_
        refine ZI <| Zf <| Za <| gm rfl rfl <| gr rfl (by exact ZK (b := 1) rfl rfl (by omega)) ?_
        refine gas rfl rfl <| ZM <| Zf ?_
        exact ZT ((k + 1, true)) ⟨⟨by simp only; omega, (decide_eq_true (by rw [take_at hu9, List.mem_append]; exact .inl (of_decide_eq_true (hfb.symm.trans h233)))).symm⟩, by simp only; omega⟩ ⟨rfl, rfl, rfl, rfl, trivial⟩ (Yx 0 rfl)
      refine ZJ 2 rfl rfl rfl rfl rfl ⟨[0, 1, 2, 3, 4, 5, 6, 7, 8, 9, 10, 11, 12, 13, 14, 15, 16, 17, 18, 19, 20, 21, 22, 23, 24, 25, 26, 27, 28, 29], by decide, rfl⟩ (Zh (Zq rfl)) ?_
      refine ZJ 3 rfl rfl rfl rfl rfl ⟨[0, 1, 2, 3, 4, 5, 6, 7, 8, 9, 10, 11, 12, 13, 14, 15, 16, 17, 18, 19, 20, 21, 22, 23, 24, 25, 26, 27, 28, 29], by decide, rfl⟩ (Zh (Zq rfl)) ?_
      refine ZJ 4 rfl rfl rfl rfl rfl ⟨[0, 1, 2, 3, 4, 5, 6, 7, 8, 9, 10, 11, 12, 13, 14, 15, 16, 17, 18, 19, 20, 21, 22, 23, 24, 25, 26, 27, 28, 29], by decide, rfl⟩ (Zh (by exact Zaf 29 rfl Tryz.underlying56 YT rfl rfl (by omega) (by omega))) ?_
      refine ZJ 5 rfl rfl rfl rfl rfl ⟨[0, 1, 2, 3, 4, 5, 6, 7, 8, 9, 10, 11, 12, 13, 14, 15, 16, 17, 18, 19, 20, 21, 22, 23, 24, 25, 26, 27, 28, 29], by decide, rfl⟩ (Zh (Zv Tryz.underlying23 rfl YT rfl (Zne 29 rfl (Yk Pis.cells 3 (fun _ => rfl) hu9)) rfl)) ?_
      refine ZJ 6 rfl rfl rfl rfl rfl ⟨[0, 1, 2, 3, 4, 5, 6, 7, 8, 9, 10, 11, 12, 13, 14, 15, 16, 17, 18, 19, 20, 21, 22, 23, 24, 25, 26, 27, 28, 29], by decide, rfl⟩ (Zh (Zv Tryz.underlying23 rfl YT rfl (by exact ZG 7 (off := 0) (k := 3) rfl rfl) rfl)) ?_
      refine ZJ 7 rfl rfl rfl rfl rfl ⟨[0, 1, 2, 3, 4, 5, 6, 7, 8, 9, 10, 11, 12, 13, 14, 15, 16, 17, 18, 19, 20, 21, 22, 23, 24, 25, 26, 27, 28, 29], by decide, rfl⟩ (Zh (Zj8 (a := u9.lv) (b := u9.dv) (m := u9.nm) (c := (⟨2, ((o1 % s.ds.length : Nat) : Int), ((1 + n1 % 8 : Nat) : Int)⟩ : Pis).lv) (d := (⟨2, ((o1 % s.ds.length : Nat) : Int), ((1 + n1 % 8 : Nat) : Int)⟩ : Pis).dv) (o := (⟨2, ((o1 % s.ds.length : Nat) : Int), ((1 + n1 % 8 : Nat) : Int)⟩ : Pis).nm) i3_pis (by kernel_rfl) rfl rfl)) ?_
      refine ZW (fun h239 => ?_) (fun h239 => ?_)
      · have hq : u9 = (⟨2, ((o1 % s.ds.length : Nat) : Int), ((1 + n1 % 8 : Nat) : Int)⟩ : Pis) := (pis_eq _ _).1 (by simpa using h239)
        refine Zd 8 rfl rfl ⟨[0, 1, 2, 3, 4, 5, 6, 7, 8, 9, 10, 11, 12, 13, 14, 15, 16, 17, 18, 19, 20, 21, 22, 23, 24, 25, 26, 27, 28, 29], by decide, rfl⟩ (Zh (Zm rfl rfl)) ?_
        refine Zd 9 rfl rfl ⟨[0, 1, 2, 3, 4, 5, 6, 7, 8, 9, 10, 11, 12, 13, 14, 15, 16, 17, 18, 19, 20, 21, 22, 23, 24, 25, 26, 27, 28, 29], by decide, rfl⟩ (Zh (ZX rfl)) ?_
        refine ZR (.inr ⟨[0, 1, 2, 3, 4, 5, 6, 7, 8, 9, 10, 11, 12, 13, 14, 15, 16, 17, 18, 19, 20, 21, 22, 23, 24, 25, 26, 27, 28, 29], by decide, rfl⟩) ?_
        refine ZI <| Zf <| Za <| gm rfl rfl <| gr rfl (by exact ZK (b := 1) rfl rfl (by omega)) ?_
        refine gas rfl rfl <| ZM <| Zf ?_
        exact ZT ((k + 1, true)) ⟨⟨by simp only; omega, (decide_eq_true (by rw [take_at hu9, List.mem_append, hq]; exact .inr (List.mem_singleton.2 rfl))).symm⟩, by simp only; omega⟩ ⟨rfl, rfl, rfl, rfl, trivial⟩ (Yx 0 rfl)
      have hq : ¬ u9 = (⟨2, ((o1 % s.ds.length : Nat) : Int), ((1 + n1 % 8 : Nat) : Int)⟩ : Pis) := fun h => by subst h; simp at h239
      refine Zd 8 rfl rfl ⟨[0, 1, 2, 3, 4, 5, 6, 7, 8, 9, 10, 11, 12, 13, 14, 15, 16, 17, 18, 19, 20, 21, 22, 23, 24, 25, 26, 27, 28, 29], by decide, rfl⟩ (Zh (Zm rfl rfl)) ?_
      refine Zd 9 rfl rfl ⟨[0, 1, 2, 3, 4, 5, 6, 7, 8, 9, 10, 11, 12, 13, 14, 15, 16, 17, 18, 19, 20, 21, 22, 23, 24, 25, 26, 27, 28, 29], by decide, rfl⟩ (Zh (ZX rfl)) ?_
      refine ZR (.inr ⟨[0, 1, 2, 3, 4, 5, 6, 7, 8, 9, 10, 11, 12, 13, 14, 15, 16, 17, 18, 19, 20, 21, 22, 23, 24, 25, 26, 27, 28, 29], by decide, rfl⟩) ?_
      refine ZI <| Zf <| Za <| gm rfl rfl <| gr rfl (by exact ZK (b := 1) rfl rfl (by omega)) ?_
      refine gas rfl rfl <| ZM <| Zf ?_
      exact ZT ((k + 1, false)) ⟨⟨by simp only; omega, (decide_eq_false (by rw [take_at hu9, List.mem_append]; exact fun h => h.elim (of_decide_eq_false (hfb.symm.trans h233)) (fun h => hq (List.mem_singleton.1 h).symm))).symm⟩, by simp only; omega⟩ ⟨rfl, rfl, rfl, rfl, trivial⟩ (Yx 0 rfl)
    refine gA <| Zn rfl <| Z2 <| Zt <| Zt <| ZE <| Zf <| Zb ?_
    have hfb9 : fb = true := by rw [hfb, List.take_of_length_le (by omega)]; exact decide_eq_true hmem
    subst hfb9
    refine Za <| gm rfl rfl <| gm rfl rfl <| Ze rfl rfl (ZF rfl (vf := []) (vc := []) rfl rfl Tryz.call10 (fun w1 ho => WL w1) ?_)
    rintro _ _ ⟨rfl, rfl⟩
    refine gr rfl (Zp rfl rfl) <| gas rfl rfl <| gA <| Zr <| Z7 (.inl rfl) Tryz.results6 rfl (VA _) ?_
    exact ⟨rfl, rfl⟩
  refine Ze rfl rfl <| Zk rfl (Zq rfl) <| Zi rfl rfl rfl <| Zi rfl rfl rfl <| Zi rfl rfl rfl <| Zi rfl rfl rfl <| Ze rfl rfl <| Zk rfl (Zm rfl rfl) <| gr rfl (Zm rfl rfl) <| gA <| Zn rfl <| Zu <| Zf <| Zb <| Za <| gas rfl rfl <| gA <| Zb <| Zb <| Za <| gas rfl rfl <| gA <| ZD <| ZY (ι := Nat × Bool) [(14, _), (25, _)] (_ :: _ :: _ :: _ :: _ :: _ :: _ :: _ :: _ :: _ :: _ :: _ :: _ :: _ :: _ :: _ :: _ :: _ :: _ :: _ :: _ :: _ :: _ :: _ :: _ :: _ :: _ :: _ :: _ :: _ :: q5.hl) (fun q => q.1 ≤ ls.length ∧ q.2 = decide ((⟨2, ((o1 % s.ds.length : Nat) : Int), ((1 + n1 % 8 : Nat) : Int)⟩ : Pis) ∈ ls.take q.1)) (fun q Fr0 => ((27, .bool q.2) :: (28, natV q.1) :: Fr0)) (fun q Fr0 => Fr0) (fun q => ls.length - q.1) (0, false) (⟨Nat.zero_le _, by simp⟩) ⟨rfl, rfl, rfl, rfl, trivial⟩ (Yx 0 rfl) ?_
  rintro ⟨k, fb⟩ ⟨hk, hfb⟩
  simp only at hk hfb ⊢
  refine Zb <| Zb <| Za <| gm rfl rfl <| gm rfl rfl <| gr rfl (ZB Tryz.underlying56 rfl) <| gr rfl (Z1 rfl rfl) (Zx (fun h229 => ?_) (fun h229 => ?_))
  · obtain ⟨u9, hu9⟩ := get_some (show k < ls.length by omega)
    refine gA <| Zl rfl <| Zu <| Zf <| Zb <| ZD <| ZQ [0, 1, 2, 3, 4, 5, 6, 7, 8, 9, 10, 11, 12, 13, 14, 15, 16, 17, 18, 19, 20, 21, 22, 23, 24, 25, 26, 27, 28, 29] true 9 rfl <| Zd 0 rfl rfl ⟨[0, 1, 2, 3, 4, 5, 6, 7, 8, 9, 10, 11, 12, 13, 14, 15, 16, 17, 18, 19, 20, 21, 22, 23, 24, 25, 26, 27, 28, 29], by decide, rfl⟩ (Zh (Zq rfl)) ?_
    refine Zd 1 rfl rfl ⟨[0, 1, 2, 3, 4, 5, 6, 7, 8, 9, 10, 11, 12, 13, 14, 15, 16, 17, 18, 19, 20, 21, 22, 23, 24, 25, 26, 27, 28, 29], by decide, rfl⟩ (Zh (Zq rfl)) ?_
    refine ZW (fun h233 => ?_) (fun h233 => ?_)
    · refine ZH 2 rfl rfl rfl rfl rfl ⟨[0, 1, 2, 3, 4, 5, 6, 7, 8, 9, 10, 11, 12, 13, 14, 15, 16, 17, 18, 19, 20, 21, 22, 23, 24, 25, 26, 27, 28, 29], by decide, rfl⟩ ?_
      refine ZH 3 rfl rfl rfl rfl rfl ⟨[0, 1, 2, 3, 4, 5, 6, 7, 8, 9, 10, 11, 12, 13, 14, 15, 16, 17, 18, 19, 20, 21, 22, 23, 24, 25, 26, 27, 28, 29], by decide, rfl⟩ ?_
      refine ZH 4 rfl rfl rfl rfl rfl ⟨[0, 1, 2, 3, 4, 5, 6, 7, 8, 9, 10, 11, 12, 13, 14, 15, 16, 17, 18, 19, 20, 21, 22, 23, 24, 25, 26, 27, 28, 29], by decide, rfl⟩ ?_
      refine ZH 5 rfl rfl rfl rfl rfl ⟨[0, 1, 2, 3, 4, 5, 6, 7, 8, 9, 10, 11, 12, 13, 14, 15, 16, 17, 18, 19, 20, 21, 22, 23, 24, 25, 26, 27, 28, 29], by decide, rfl⟩ ?_
      refine ZH 6 rfl rfl rfl rfl rfl ⟨[0, 1, 2, 3, 4, 5, 6, 7, 8, 9, 10, 11, 12, 13, 14, 15, 16, 17, 18, 19, 20, 21, 22, 23, 24, 25, 26, 27, 28, 29], by decide, rfl⟩ ?_
      refine ZH 7 rfl rfl rfl rfl rfl ⟨[0, 1, 2, 3, 4, 5, 6, 7, 8, 9, 10, 11, 12, 13, 14, 15, 16, 17, 18, 19, 20, 21, 22, 23, 24, 25, 26, 27, 28, 29], by decide, rfl⟩ ?_
      refine Zd 8 rfl rfl ⟨[0, 1, 2, 3, 4, 5, 6, 7, 8, 9, 10, 11, 12, 13, 14, 15, 16, 17, 18, 19, 20, 21, 22, 23, 24, 25, 26, 27, 28, 29], by decide, rfl⟩ (Zh (Zp rfl rfl)) ?_
      refine Zd 9 rfl rfl ⟨[0, 1, 2, 3, 4, 5, 6, 7, 8, 9, 10, 11, 12, 13, 14, 15, 16, 17, 18, 19, 20, 21, 22, 23, 24, 25, 26, 27, 28, 29], by decide, rfl⟩ (Zh (ZX rfl)) ?_
      refine ZR (.inr ⟨[0, 1, 2, 3, 4, 5, 6, 7, 8, 9, 10, 11, 12, 13, 14, 15, 16, 17, 18, 19, 20, 21, 22, 23, 24, 25, 26, 27, 28, 29], by decide, rfl⟩) ?_
      refine ZI <| Zf <| Za <| gm rfl rfl <| gr rfl (by exact ZK (b := 1) rfl rfl (by omega)) ?_
      refine gas rfl rfl <| ZM <| Zf ?_
      exact ZT ((k + 1, true)) ⟨⟨by simp only; omega, (decide_eq_true (by rw [take_at hu9, List.mem_append]; exact .inl (of_decide_eq_true (hfb.symm.trans h233)))).symm⟩, by simp only; omega⟩ ⟨rfl, rfl, rfl, rfl, trivial⟩ (Yx 0 rfl)
    refine ZJ 2 rfl rfl rfl rfl rfl ⟨[0, 1, 2, 3, 4, 5, 6, 7, 8, 9, 10, 11, 12, 13, 14, 15, 16, 17, 18, 19, 20, 21, 22, 23, 24, 25, 26, 27, 28, 29], by decide, rfl⟩ (Zh (Zq rfl)) ?_
    refine ZJ 3 rfl rfl rfl rfl rfl ⟨[0, 1, 2, 3, 4, 5, 6, 7, 8, 9, 10, 11, 12, 13, 14, 15, 16, 17, 18, 19, 20, 21, 22, 23, 24, 25, 26, 27, 28, 29], by decide, rfl⟩ (Zh (Zq rfl)) ?_
    refine ZJ 4 rfl rfl rfl rfl rfl ⟨[0, 1, 2, 3, 4, 5, 6, 7, 8, 9, 10, 11, 12, 13, 14, 15, 16, 17, 18, 19, 20, 21, 22, 23, 24, 25, 26, 27, 28, 29], by decide, rfl⟩ (Zh (by exact Zaf 29 rfl Tryz.underlying56 YT rfl rfl (by omega) (by omega))) ?_
    refine ZJ 5 rfl rfl rfl rfl rfl ⟨[0, 1, 2, 3, 4, 5, 6, 7, 8, 9, 10, 11, 12, 13, 14, 15, 16, 17, 18, 19, 20, 21, 22, 23, 24, 25, 26, 27, 28, 29], by decide, rfl⟩ (Zh (Zv Tryz.underlying23 rfl YT rfl (Zne 29 rfl (Yk Pis.cells 3 (fun _ => rfl) hu9)) rfl)) ?_
    refine ZJ 6 rfl rfl rfl rfl rfl ⟨[0, 1, 2, 3, 4, 5, 6, 7, 8, 9, 10, 11, 12, 13, 14, 15, 16, 17, 18, 19, 20, 21, 22, 23, 24, 25, 26, 27, 28, 29], by decide, rfl⟩ (Zh (Zv Tryz.underlying23 rfl YT rfl (by exact ZG 7 (off := 0) (k := 3) rfl rfl) rfl)) ?_
    refine ZJ 7 rfl rfl rfl rfl rfl ⟨[0, 1, 2, 3, 4, 5, 6, 7, 8, 9, 10, 11, 12, 13, 14, 15, 16, 17, 18, 19, 20, 21, 22, 23, 24, 25, 26, 27, 28, 29], by decide, rfl⟩ (Zh (Zj8 (a := u9.lv) (b := u9.dv) (m := u9.nm) (c := (⟨2, ((o1 % s.ds.length : Nat) : Int), ((1 + n1 % 8 : Nat) : Int)⟩ : Pis).lv) (d := (⟨2, ((o1 % s.ds.length : Nat) : Int), ((1 + n1 % 8 : Nat) : Int)⟩ : Pis).dv) (o := (⟨2, ((o1 % s.ds.length : Nat) : Int), ((1 + n1 % 8 : Nat) : Int)⟩ : Pis).nm) i3_pis (by kernel_rfl) rfl rfl)) ?_
    refine ZW (fun h239 => ?_) (fun h239 => ?_)
    · have hq : u9 = (⟨2, ((o1 % s.ds.length : Nat) : Int), ((1 + n1 % 8 : Nat) : Int)⟩ : Pis) := (pis_eq _ _).1 (by simpa using h239)
      refine Zd 8 rfl rfl ⟨[0, 1, 2, 3, 4, 5, 6, 7, 8, 9, 10, 11, 12, 13, 14, 15, 16, 17, 18, 19, 20, 21, 22, 23, 24, 25, 26, 27, 28, 29], by decide, rfl⟩ (Zh (Zm rfl rfl)) ?_
      refine Zd 9 rfl rfl ⟨[0, 1, 2, 3, 4, 5, 6, 7, 8, 9, 10, 11, 12, 13, 14, 15, 16, 17, 18, 19, 20, 21, 22, 23, 24, 25, 26, 27, 28, 29], by decide, rfl⟩ (Zh (ZX rfl)) ?_
      refine ZR (.inr ⟨[0, 1, 2, 3, 4, 5, 6, 7, 8, 9, 10, 11, 12, 13, 14, 15, 16, 17, 18, 19, 20, 21, 22, 23, 24, 25, 26, 27, 28, 29], by decide, rfl⟩) ?_
      refine ZI <| Zf <| Za <| gm rfl rfl <| gr rfl (by exact ZK (b := 1) rfl rfl (by omega)) ?_
      refine gas rfl rfl <| ZM <| Zf ?_
      exact ZT ((k + 1, true)) ⟨⟨by simp only; omega, (decide_eq_true (by rw [take_at hu9, List.mem_append, hq]; exact .inr (List.mem_singleton.2 rfl))).symm⟩, by simp only; omega⟩ ⟨rfl, rfl, rfl, rfl, trivial⟩ (Yx 0 rfl)
    have hq : ¬ u9 = (⟨2, ((o1 % s.ds.length : Nat) : Int), ((1 + n1 % 8 : Nat) : Int)⟩ : Pis) := fun h => by subst h; simp at h239
    refine Zd 8 rfl rfl ⟨[0, 1, 2, 3, 4, 5, 6, 7, 8, 9, 10, 11, 12, 13, 14, 15, 16, 17, 18, 19, 20, 21, 22, 23, 24, 25, 26, 27, 28, 29], by decide, rfl⟩ (Zh (Zm rfl rfl)) ?_
    refine Zd 9 rfl rfl ⟨[0, 1, 2, 3, 4, 5, 6, 7, 8, 9, 10, 11, 12, 13, 14, 15, 16, 17, 18, 19, 20, 21, 22, 23, 24, 25, 26, 27, 28, 29], by decide, rfl⟩ (Zh (ZX rfl)) ?_
    refine ZR (.inr ⟨[0, 1, 2, 3, 4, 5, 6, 7, 8, 9, 10, 11, 12, 13, 14, 15, 16, 17, 18, 19, 20, 21, 22, 23, 24, 25, 26, 27, 28, 29], by decide, rfl⟩) ?_
    refine ZI <| Zf <| Za <| gm rfl rfl <| gr rfl (by exact ZK (b := 1) rfl rfl (by omega)) ?_
    refine gas rfl rfl <| ZM <| Zf ?_
    exact ZT ((k + 1, false)) ⟨⟨by simp only; omega, (decide_eq_false (by rw [take_at hu9, List.mem_append]; exact fun h => h.elim (of_decide_eq_false (hfb.symm.trans h233)) (fun h => hq (List.mem_singleton.1 h).symm))).symm⟩, by simp only; omega⟩ ⟨rfl, rfl, rfl, rfl, trivial⟩ (Yx 0 rfl)
  refine gA <| Zn rfl <| Z2 <| Zt <| Zt <| ZE <| Zf <| Zb ?_
  have hfb9 : fb = true := by rw [hfb, List.take_of_length_le (by omega)]; exact decide_eq_true hmem
  subst hfb9
  refine Za <| gm rfl rfl <| gm rfl rfl <| Ze rfl rfl (ZF rfl (vf := []) (vc := []) rfl rfl Tryz.call10 (fun w1 ho => WL w1) ?_)
  rintro _ _ ⟨rfl, rfl⟩
  refine gr rfl (Zp rfl rfl) <| gas rfl rfl <| gA <| Zr <| Z7 (.inl rfl) Tryz.results6 rfl (VA _) ?_
  exact ⟨rfl, rfl⟩
namespace Ip
theorem Zlz (s : Org) (hle : OrgLe s) (p : Pr) (hpl : PrLe p) (w0 : World) (hS : OrgIn s w0 []) (hp : PrIn p w0 []) (b1 : Option Addr) (k1 : Nat) (ws : List Int) (b2 : Option Addr) (k2 : Nat) (wc : List Int) (hw1 : ws.length ≤ 140737488355328) (hw2 : wc.length ≤ 140737488355328) (h1 : OldSl w0 [] b1 ws.length 1 (ws.map Xd)) (h2 : OldSl w0 [] b2 wc.length 1 (wc.map Xd)) : Sp Tryz.prog 6 [s.val, Pr.val p, .agg #[.slice b1 ws.length k1, .slice b2 wc.length k2]] w0 [] (RV (.bool true)) :=
  Zjo s hle p.one p.two p.fst p.oth p.a1 p.c1 p.rs p.a2 p.c2 p.rc p.a3 p.c3 p.ts p.a4 p.c4 p.tc hpl.one hpl.two hpl.fst hpl.oth hpl.rs hpl.rc hpl.ts hpl.tc w0 hS hp.rs hp.rc hp.ts hp.tc b1 k1 ws b2 k2 wc hw1 hw2 h1 h2
end Ip
end Go.Proofs.YthcbcdjkfefnlaaGreatDoor
