import Derived.Test.YthcbcdjkfefnlaaGreatDoorW04
import Derived.Test.YthcbcdjkfefnlaaGreatDoorW01
import Derived.Test.YthcbcdjkfefnlaaGreatDoorRows
import Derived.LaidMore
import Derived.MakeChecks
import Derived.Stop.Joined
import Derived.LaidHandle
import Derived.Test.YthcbcdjkfefnlaaGreatDoorW00
/- A part of the proof: walks of the program. -/
set_option autoImplicit false
set_option linter.unusedSimpArgs false
set_option linter.unusedVariables false
set_option linter.unnecessarySimpa false
set_option maxRecDepth 100000
set_option maxHeartbeats 8000000
namespace Go.Proofs.YthcbcdjkfefnlaaGreatDoor
open Go.Gv
open Go.RowKit
open Go.Sn hiding En keysP keysP_len stop_ok
open Go.Ps
open Iv Sx Ip
theorem ty_37 : TyF Tryz.prog 37 (.int .i64 0) 1 8 := TyF.mk' (by kernel_rfl)
namespace Ip
theorem Ve (l : List Nat) : (Y1 l).map Vy = l.map natV := by unfold Y1; rw [List.map_map]; rfl
theorem arr3 (a b c : Int) {k : Nat} (h : k < 3) : (#[.int .i64 a, .int .i64 b, .int .i64 c] : Array Value)[k]? = some (.int .i64 ([a, b, c].getD k 0)) := by
  rcases k with _ | _ | _ | k
  · rfl
  · rfl
  · rfl
  · omega
def Wa : List Int → Int
  | [] => 0
  | e :: l => if e ≠ 0 then e else Wa l
theorem Zct : ∀ {l : List Int} {k : Nat}, (∀ j, j < k → l.getD j 0 = 0) → l.getD k 0 ≠ 0 → Wa l = l.getD k 0
  | [], k, _, h => by simp at h
  | e :: l, 0, _, h => by
    have h : e ≠ 0 := h
    show (if e ≠ 0 then e else Wa l) = e
    rw [if_pos h]
  | e :: l, k + 1, h0, h => by
    have h1 : e = 0 := h0 0 (Nat.succ_pos k)
    show (if e ≠ 0 then e else Wa l) = l.getD k 0
    rw [if_neg (by omega)]
    exact Zct (fun j hj => h0 (j + 1) (by omega)) h
theorem J8 : ∀ {l : List Int}, (∀ j, j < l.length → l.getD j 0 = 0) → Wa l = 0
  | [], _ => rfl
  | e :: l, h => by
    have h1 : e = 0 := h 0 (by simp)
    show (if e ≠ 0 then e else Wa l) = 0
    rw [if_neg (by omega)]
    exact J8 fun j hj => h (j + 1) (by simp; omega)
theorem any_of {q : SS} {V : Yo} {n : Nat} (h : q.Ok V n ∨ q.Stop) : (∃ V n, q.Ok V n) ∨ q.Stop := h.imp (fun h => ⟨V, n, h⟩) id
theorem pack_ok2 (r : Rg) (ns nc : Nat) (hr : RgOk ns nc r) (hns : ns ≤ 80) (hnc : nc ≤ 24) (a1 a2 : Option Addr) (c1 c2 : Nat) (w0 : World) (h1 : OldSl w0 [] a1 r.1.length 1 (r.1.map natV)) (h2 : OldSl w0 [] a2 r.2.length 1 (r.2.map natV)) : Sp Tryz.prog 55 [.agg #[.slice a1 r.1.length c1, .slice a2 r.2.length c2]] w0 [] (fun v L => ∃ b, v = .slice (Yb (some b)) (packR r.1 r.2).length 14 ∧ L = [.row 5 1 (some b) (packR r.1 r.2).length 14 ((packR r.1 r.2).map u8V)]) := by
  refine (pack_okP r.1 r.2 a1 a2 c1 c2 (fun i hi => Nat.lt_of_lt_of_le (hr.sn i hi) hns) (fun i hi => Nat.lt_of_lt_of_le (hr.cn i hi) hnc) (Zb7 hr hns) (Zb8 hr hnc) w0 h1 h2).mono ?_
  rintro v L ⟨b, rfl, rfl⟩
  exact ⟨b, by rw [Ji], by rw [Ji]⟩
def SetR (s : Org) (q : SS) (V : Yo) (n : Nat) (x : Pis) (ss cs : List Int) : Value → List HL → Prop := fun v L =>
  (Wa [pnE s.ds.length x, X9 s.ss.length s.cs.length ss cs, q.err] ≠ 0 ∧ v = .int .i64 (Wa [pnE s.ds.length x, X9 s.ss.length s.cs.length ss cs, q.err]) ∧ L = q.hl) ∨
  (Wa [pnE s.ds.length x, X9 s.ss.length s.cs.length ss cs, q.err] = 0 ∧ q.Ok V n ∧ pnE s.ds.length x = 0 ∧ ∃ r : Rg, ss = Y1 r.1 ∧ cs = Y1 r.2 ∧ RgOk s.ss.length s.cs.length r ∧ PutR q V n (keyN x) (packR (VR s x r).1 (VR s x r).2) v L)
def Zmk (s : Org) (q : SS) (V : Yo) (n : Nat) (x : Pis) (ss cs : List Int) (e : Int) (p : Rg) : Prop :=
  (Wa [pnE s.ds.length x, X9 s.ss.length s.cs.length ss cs, q.err] ≠ 0 ∧ e = Wa [pnE s.ds.length x, X9 s.ss.length s.cs.length ss cs, q.err] ∧ p = ([], [])) ∨
  (Wa [pnE s.ds.length x, X9 s.ss.length s.cs.length ss cs, q.err] = 0 ∧ q.Ok V n ∧ pnE s.ds.length x = 0 ∧ ∃ r : Rg, ss = Y1 r.1 ∧ cs = Y1 r.2 ∧ RgOk s.ss.length s.cs.length r ∧ ((W5 V x = none ∧ e = 4 ∧ p = ([], [])) ∨ ∃ k, W5 V x = some k ∧ e = 0 ∧ p = Vx s x k r))
def PressR (s : Org) (q : SS) (V : Yo) (n : Nat) (x : Pis) (ss cs : List Int) : Value → List HL → Prop := fun v L =>
  ∃ (e : Int) (p : Rg) (r : Option Nat) (c : Nat) (r2 : Option Nat) (c2 : Nat), v = .tuple #[.agg #[.slice (Yb r) p.1.length c, .slice (Yb r2) p.2.length c2], .int .i64 e] ∧ L = .row 3 1 r p.1.length c (p.1.map natV) :: .row 3 1 r2 p.2.length c2 (p.2.map natV) :: q.hl ∧ Zmk s q V n x ss cs e p
end Ip
open Ip
theorem Set_okP (q : SS) (V : Yo) (n : Nat) (hq : q.Ok V n ∨ q.Stop) (S : List Nat) (w0 : World) (hown : Own w0 S w0 q.hl) (hn : n < 1000000) (s : Org) (bp : Nat) (hP : PsIn s bp q.bs w0 S) (x : Pis) (ss cs : List Int) (a1 a2 : Option Addr) (c1 c2 : Nat) (hl1 : ss.length ≤ 140737488355328) (hl2 : cs.length ≤ 140737488355328) (h1 : OldSl w0 S a1 ss.length 1 (ss.map Vy)) (h2 : OldSl w0 S a2 cs.length 1 (cs.map Vy)) : Sp Tryz.prog 19 [.pointer (some ⟨bp, 0, none⟩), Pis.val x, .agg #[.slice a1 ss.length c1, .slice a2 cs.length c2]] w0 S (SetR s q V n x ss cs) := by
  have hp := hP.p
  have hns := hP.ns
  have hnc := hP.nc
  refine ZC Tryz.func19 rfl Tryz.ntmps19 rfl hown ?_
  simp only [ZS]
  refine Zb <| Za <| Zs (Ye rfl rfl rfl (fun b4 => ?_))
  refine Zs (Ye rfl rfl rfl (fun b5 => ?_))
  refine gas rfl rfl <| gA <| Zb <| Zb <| Za <| gm rfl rfl <| Zs (ZD rfl (vf := []) (vc := []) rfl rfl Tryz.call43 (fun w1 ho => Zmf bp true w1 (by have h9 := (hP.at ho).p 0 _ rfl; exact h9)) ?_)
  rintro _ _ ⟨rfl, rfl⟩
  refine gA <| Zn rfl <| Zt <| Zg <| Zb <| Zb <| Zd7 [_, _] q.hl [0, 1] true 9 rfl rfl <| Zd 0 rfl rfl (YL 0 rfl) (Zj (Zq rfl)) ?_
  refine Zd 1 rfl rfl (YL 0 rfl) (Zj (Zx Tryz.underlying23 rfl V6 rfl (by exact ZH 1 (off := 0) (k := 3) rfl rfl) rfl)) ?_
  refine Zd 2 rfl rfl (YL 0 rfl) (YR (vf := []) (vc := []) rfl rfl Tryz.call44 (fun w1 ho => Zgu s bp q.bs w1 (hP.at ho) x) (by rintro _ _ ⟨h, _⟩; exact h)) ?_
  refine Zd 3 rfl rfl (YL 0 rfl) (Zj (Zq rfl)) ?_
  refine Zd 4 rfl rfl (YL 0 rfl) (Zj (Zx Tryz.underlying26 rfl Yr rfl (by exact ZH 0 (off := 0) (k := 2) rfl rfl) rfl)) ?_
  refine Zd 5 rfl rfl (YL 0 rfl) (YR (vf := []) (vc := []) rfl rfl Tryz.call45 (fun w1 ho => JF s bp q.bs w1 (hP.at ho) ss cs a1 a2 c1 c2 hl1 hl2 (h1.at ho) (h2.at ho)) (by rintro _ _ ⟨h, _⟩; exact h)) ?_
  refine Zd 6 rfl rfl (YL 0 rfl) (Zj (Zq rfl)) ?_
  refine Zd 9 rfl rfl (YL 0 rfl) (Zj (Zq rfl)) ?_
  refine ZJ 7 rfl (.inr (YL 0 rfl)) (Xb [_, _] q.hl rfl rfl (vf := []) (vc := []) rfl rfl Tryz.call46 rfl (fun w how hc => up_any q (any_of hq) _ w hc s bp (hP.out (A := [_, _]) how)) ?_)
  rintro _ _ ⟨rfl, rfl⟩
  refine Zd 8 rfl rfl (YL 0 rfl) (Zj (ZP rfl (fun _ => Zbq _ _ _))) ?_
  refine ZT (.inr (YL 0 rfl)) ?_
  refine Zg <| ZF <| Z2 (ι := Nat) [(0, _), (4, _), (5, _), (21, _)] (_ :: _ :: q.hl) (fun k => k ≤ 3 ∧ ∀ j, j < k → [pnE s.ds.length x, X9 s.ss.length s.cs.length ss cs, q.err].getD j 0 = 0) (fun k Fr0 => ((22, natV k) :: Fr0)) (fun k Fr0 => Fr0) (fun k => 3 - k) 0 (⟨Nat.zero_le _, fun j h => absurd h (Nat.not_lt_zero j)⟩) ⟨rfl, rfl, rfl, rfl, rfl, trivial⟩ (YL 0 rfl) ?_
  rintro k ⟨hk, hall⟩
  refine Zb <| Za <| gr rfl (ZZ rfl rfl) (Zv (fun hlt => ?_) (fun hlt => ?_))
  · refine gA <| Zb <| Zm rfl <| Zt <| Zg <| Zb <| ZF <| Zb <| Za <| gr rfl (Zbg Tryz.underlying119 Tryz.underlying37 ty_37 rfl rfl (by omega) (arr3 _ _ _ (by omega))) ?_
    refine gas rfl rfl <| gA <| Zb <| Za <| gm rfl rfl <| gr rfl (Z1 rfl rfl) (Zv (fun hne => ?_) (fun hne => ?_))
    · refine gA <| Zm rfl <| Zb <| Za <| gm rfl rfl <| gas rfl rfl <| gA <| Zr <| Zy <| Zh <| Zh <| Zy <| Zh <| Z6 (.inl rfl) Tryz.results19 rfl (Z4 (A := []) (B := [_, _]) (T := q.hl) [] 2 (by decide) (by decide) rfl rfl) ?_
      have hz := Zct hall hne
      exact .inl ⟨by rw [hz]; exact hne, by rw [hz], rfl⟩
    refine gA <| Zn rfl <| Zt <| ZI <| Zg <| Za <| gr rfl (by exact ZL (b := 1) rfl rfl (by omega)) ?_
    refine gm rfl rfl <| ZN <| Zg ?_
    exact ZX (k + 1) ⟨⟨by omega, fun j hj => by
      rcases Nat.lt_or_eq_of_le (Nat.le_of_lt_succ hj) with h | rfl
      · exact hall j h
      · omega⟩, by omega⟩ ⟨rfl, rfl, rfl, rfl, rfl, trivial⟩ (YL 0 rfl)
  refine gA <| Zb <| Zn rfl <| Z3 <| Zu <| Zu <| ZG <| Zg <| Zb ?_
  have hz := J8 (l := [pnE s.ds.length x, X9 s.ss.length s.cs.length ss cs, q.err]) (fun j hj => hall j (by simp at hj; omega))
  have hx0 : pnE s.ds.length x = 0 := hall 0 (by omega)
  have hr0 : X9 s.ss.length s.cs.length ss cs = 0 := hall 1 (by omega)
  have hq0 : q.err = 0 := hall 2 (by omega)
  have hqo : q.Ok V n := hq.resolve_right (fun h => h.no hq0)
  obtain ⟨r, rfl, rfl, hr⟩ := reg_ok hr0
  rw [YN] at h1 h2
  rw [Ve] at h1 h2
  rw [YN, YN]
  have hkN : kyP x = ((keyN x : Nat) : Int) := (XM hP.nd hx0).2.2.symm
  have hk9 := XM hP.nd hx0
  have hrl1 := Zb7 hr hns
  have hrl2 := Zb8 hr hnc
  have hwo := Za1 (s := s) x hr
  refine Za <| gm rfl rfl <| gr rfl (Zx Tryz.underlying23 rfl V6 rfl (by exact ZH 1 (off := 0) (k := 3) rfl rfl) rfl) ?_
  refine gr rfl (Zx Tryz.underlying26 rfl Yr rfl (by exact ZH 0 (off := 0) (k := 2) rfl rfl) rfl) ?_
  refine Zs (ZD rfl (vf := []) (vc := []) rfl rfl Tryz.call53 (fun w1 ho => Zcs s bp q.bs w1 (hP.at ho) x r.1 r.2 a1 a2 c1 c2 hr.sn hr.cn hrl1 hrl2 (h1.at ho) (h2.at ho)) ?_)
  rintro _ _ ⟨r1, rd1, r3, rd3, r2, rd2, r4, rd4, rfl, rfl⟩
  refine gm rfl rfl <| gr rfl (ZA rfl rfl) <| gr rfl (ZA rfl rfl) <| Zs (ZR Yr rfl rfl (fun b9 => ?_))
  refine Zs (ZR Yr rfl rfl (fun b10 => ?_))
  refine Zs (Zz 1 Yr rfl rfl rfl rfl rfl rfl (by rfl) ?_)
  refine Zs (Zz 0 Yr rfl rfl rfl rfl rfl rfl (by rfl) ?_)
  refine gA <| Zb <| ZQ [0, 1, 2, 3, 4, 5, 6, 7] true 11 rfl <| Zd 0 rfl rfl ⟨[0, 1, 2, 3, 4, 5, 6, 7], by decide, rfl⟩ (Zj (Zq rfl)) ?_
  refine Zd 1 rfl rfl ⟨[0, 1, 2, 3, 4, 5, 6, 7], by decide, rfl⟩ (Zj (ZK rfl)) ?_
  refine Zd 2 rfl rfl ⟨[0, 1, 2, 3, 4, 5, 6, 7], by decide, rfl⟩ (Zj (Zc rfl (Jq _))) ?_
  refine Zd 3 rfl rfl ⟨[0, 1, 2, 3, 4, 5, 6, 7], by decide, rfl⟩ (Zj (Zi Tryz.underlying50 rfl rfl (Ys hp hP.o (j := 1) rfl))) ?_
  refine Zd 4 rfl rfl ⟨[0, 1, 2, 3, 4, 5, 6, 7], by decide, rfl⟩ (Zj (Zx Tryz.underlying23 rfl V6 rfl (by exact ZH 7 (off := 0) (k := 3) rfl rfl) rfl)) ?_
  refine Zd 5 rfl rfl ⟨[0, 1, 2, 3, 4, 5, 6, 7], by decide, rfl⟩ (YR (vf := []) (vc := []) rfl rfl Tryz.call54 (fun w1 ho => key_ok hP.nd x hx0 w1) (by rintro _ _ ⟨h, _⟩; exact h)) ?_
  rw [hkN]
  refine Zd 6 rfl rfl ⟨[0, 1, 2, 3, 4, 5, 6, 7], by decide, rfl⟩ (Zj (Zx Tryz.underlying26 rfl Yr rfl (by exact ZH 1 (off := 0) (k := 2) rfl rfl) rfl)) ?_
  refine Zd 8 rfl rfl ⟨[0, 1, 2, 3, 4, 5, 6, 7], by decide, rfl⟩ (Zj (Zb6 rfl)) ?_
  refine Zd 9 rfl rfl ⟨[0, 1, 2, 3, 4, 5, 6, 7], by decide, rfl⟩ (Zj (Zq rfl)) ?_
  refine ZJ 7 rfl (.inr ⟨[0, 1, 2, 3, 4, 5, 6, 7], by decide, rfl⟩) (ZD rfl (vf := []) (vc := []) rfl rfl Tryz.call55 (fun w1 ho => pack_ok2 (VR s x r) _ _ hwo hns hnc _ _ _ _ w1 (ho.rowSl 2 rfl) (ho.rowSl 3 rfl)) ?_)
  rintro _ _ ⟨b9, rfl, rfl⟩
  refine ZJ 10 rfl (.inr ⟨[1, 2, 3, 4, 5, 6, 7, 8], by decide, rfl⟩) (WG (rv := (.pointer (some ⟨q.bs, 0, none⟩))) (F := 182) rfl rfl (m_put _) Tryz.call182 ?_)
  refine (Xb [_, _, _, _, _, _, _, _, _] q.hl rfl rfl (vf := []) (vc := []) rfl rfl Tryz.call182 rfl (fun w how hc => q_put q V n hqo _ w hc hn (keyN x) (by omega) (packR (VR s x r).1 (VR s x r).2) (Zjy _ _) (by rw [Ji]; decide) _ _ (how.rowSlT (A := [_, _, _, _, _, _, _, _, _]) 0 rfl)) ?_)
  rintro v9 T9 hput
  refine Zd 11 rfl rfl ⟨[1, 2, 3, 4, 5, 6, 7, 8], by decide, rfl⟩ (Zj (ZY rfl)) ?_
  refine ZT (.inr ⟨[1, 2, 3, 4, 5, 6, 7, 8], by decide, rfl⟩) ?_
  refine Zg <| Zr <| Z6 (.inl rfl) Tryz.results19 rfl (Z4 (A := []) (B := [_, _, _, _, _, _, _, _, _]) (T := T9) [] 9 (by decide) (by decide) rfl rfl) ?_
  exact .inr ⟨hz, hqo, hx0, r, rfl, rfl, hr, hput⟩
theorem Znr (q : SS) (V : Yo) (n : Nat) (hq : q.Ok V n ∨ q.Stop) (S : List Nat) (w0 : World) (hown : Own w0 S w0 q.hl) (hn : n < 1000000) (s : Org) (bp : Nat) (hP : PsIn s bp q.bs w0 S) (x : Pis) (hkv : pnE s.ds.length x = 0 → ∀ r, W5 V x = some r → RgOk s.ss.length s.cs.length r) (ss cs : List Int) (a1 a2 : Option Addr) (c1 c2 : Nat) (hl1 : ss.length ≤ 140737488355328) (hl2 : cs.length ≤ 140737488355328) (h1 : OldSl w0 S a1 ss.length 1 (ss.map Vy)) (h2 : OldSl w0 S a2 cs.length 1 (cs.map Vy)) : Sp Tryz.prog 16 [.pointer (some ⟨bp, 0, none⟩), Pis.val x, .agg #[.slice a1 ss.length c1, .slice a2 cs.length c2]] w0 S (PressR s q V n x ss cs) := by
  have hp := hP.p
  have hns := hP.ns
  have hnc := hP.nc
  refine ZC Tryz.func16 rfl Tryz.ntmps16 rfl hown ?_
  simp only [ZS]
  refine Zb <| Za <| Zs (Ye rfl rfl rfl (fun b4 => ?_))
  refine Zs (Ye rfl rfl rfl (fun b5 => ?_))
  refine Zs (ZR Yr rfl rfl (fun b6 => ?_))
  refine gas rfl rfl <| gA <| Zb <| Zb <| Za <| gm rfl rfl <| Zs (ZD rfl (vf := []) (vc := []) rfl rfl Tryz.call43 (fun w1 ho => Zmf bp true w1 (by have h9 := (hP.at ho).p 0 _ rfl; exact h9)) ?_)
  rintro _ _ ⟨rfl, rfl⟩
  refine gA <| Zn rfl <| Zt <| Zg <| Zb <| Zb <| Zd7 [_, _, _] q.hl [0, 1, 2] true 9 rfl rfl <| Zd 0 rfl rfl (YL 0 rfl) (Zj (Zq rfl)) ?_
  refine Zd 1 rfl rfl (YL 0 rfl) (Zj (Zx Tryz.underlying23 rfl V6 rfl (by exact ZH 2 (off := 0) (k := 3) rfl rfl) rfl)) ?_
  refine Zd 2 rfl rfl (YL 0 rfl) (YR (vf := []) (vc := []) rfl rfl Tryz.call44 (fun w1 ho => Zgu s bp q.bs w1 (hP.at ho) x) (by rintro _ _ ⟨h, _⟩; exact h)) ?_
  refine Zd 3 rfl rfl (YL 0 rfl) (Zj (Zq rfl)) ?_
  refine Zd 4 rfl rfl (YL 0 rfl) (Zj (Zx Tryz.underlying26 rfl Yr rfl (by exact ZH 1 (off := 0) (k := 2) rfl rfl) rfl)) ?_
  refine Zd 5 rfl rfl (YL 0 rfl) (YR (vf := []) (vc := []) rfl rfl Tryz.call45 (fun w1 ho => JF s bp q.bs w1 (hP.at ho) ss cs a1 a2 c1 c2 hl1 hl2 (h1.at ho) (h2.at ho)) (by rintro _ _ ⟨h, _⟩; exact h)) ?_
  refine Zd 6 rfl rfl (YL 0 rfl) (Zj (Zq rfl)) ?_
  refine Zd 9 rfl rfl (YL 0 rfl) (Zj (Zq rfl)) ?_
  refine ZJ 7 rfl (.inr (YL 0 rfl)) (Xb [_, _, _] q.hl rfl rfl (vf := []) (vc := []) rfl rfl Tryz.call46 rfl (fun w how hc => up_any q (any_of hq) _ w hc s bp (hP.out (A := [_, _, _]) how)) ?_)
  rintro _ _ ⟨rfl, rfl⟩
  refine Zd 8 rfl rfl (YL 0 rfl) (Zj (ZP rfl (fun _ => Zbq _ _ _))) ?_
  refine ZT (.inr (YL 0 rfl)) ?_
  refine Zg <| ZF <| Z2 (ι := Nat) [(0, _), (4, _), (5, _), (6, _), (23, _)] (_ :: _ :: _ :: q.hl) (fun k => k ≤ 3 ∧ ∀ j, j < k → [pnE s.ds.length x, X9 s.ss.length s.cs.length ss cs, q.err].getD j 0 = 0) (fun k Fr0 => ((24, natV k) :: Fr0)) (fun k Fr0 => Fr0) (fun k => 3 - k) 0 (⟨Nat.zero_le _, fun j h => absurd h (Nat.not_lt_zero j)⟩) ⟨rfl, rfl, rfl, rfl, rfl, rfl, trivial⟩ (YL 0 rfl) ?_
  rintro k ⟨hk, hall⟩
  refine Zb <| Za <| gr rfl (ZZ rfl rfl) (Zv (fun hlt => ?_) (fun hlt => ?_))
  · refine gA <| Zb <| Zm rfl <| Zt <| Zg <| Zb <| ZF <| Zb <| Za <| gr rfl (Zbg Tryz.underlying119 Tryz.underlying37 ty_37 rfl rfl (by omega) (arr3 _ _ _ (by omega))) ?_
    refine gas rfl rfl <| gA <| Zb <| Za <| gm rfl rfl <| gr rfl (Z1 rfl rfl) (Zv (fun hne => ?_) (fun hne => ?_))
    · refine gA <| Zm rfl <| Zb <| Xu 3 1 <| Xu 3 1 <| Za <| gr rfl (ZP rfl (fun _ => Zkq)) ?_
      refine gm rfl rfl <| Zs (Zz 2 Yr rfl rfl rfl rfl rfl rfl (by rfl) ?_)
      refine gas rfl rfl <| gA <| Zr <| Zy <| Zh <| Zh <| Zy <| Zh <| V5 (.inl rfl) Tryz.results16 (Yw Tryz.underlying26 rfl Yr rfl (by rfl) (ZH 2 (off := 0) (k := 2) rfl rfl)) (YH rfl) (Z4 (A := [_, _]) (B := [_, _, _, _, _]) (T := q.hl) [0, 1] 5 (by decide) (by decide) rfl rfl) ?_
      have hz := Zct hall hne
      exact ⟨_, ([], []), none, 0, none, 0, rfl, rfl, .inl ⟨by rw [hz]; exact hne, by rw [hz], rfl⟩⟩
    refine gA <| Zn rfl <| Zt <| ZI <| Zg <| Za <| gr rfl (by exact ZL (b := 1) rfl rfl (by omega)) ?_
    refine gm rfl rfl <| ZN <| Zg ?_
    exact ZX (k + 1) ⟨⟨by omega, fun j hj => by
      rcases Nat.lt_or_eq_of_le (Nat.le_of_lt_succ hj) with h | rfl
      · exact hall j h
      · omega⟩, by omega⟩ ⟨rfl, rfl, rfl, rfl, rfl, rfl, trivial⟩ (YL 0 rfl)
  refine gA <| Zb <| Zn rfl <| Z3 <| Zu <| Zu <| ZG <| Zg <| Zb ?_
  have hz := J8 (l := [pnE s.ds.length x, X9 s.ss.length s.cs.length ss cs, q.err]) (fun j hj => hall j (by simp at hj; omega))
  have hx0 : pnE s.ds.length x = 0 := hall 0 (by omega)
  have hr0 : X9 s.ss.length s.cs.length ss cs = 0 := hall 1 (by omega)
  have hq0 : q.err = 0 := hall 2 (by omega)
  have hqo : q.Ok V n := hq.resolve_right (fun h => h.no hq0)
  obtain ⟨r, rfl, rfl, hr⟩ := reg_ok hr0
  rw [YN] at h1 h2
  rw [Ve] at h1 h2
  rw [YN, YN]
  have hkN : kyP x = ((keyN x : Nat) : Int) := (XM hP.nd hx0).2.2.symm
  have hk9 := XM hP.nd hx0
  have hrl1 := Zb7 hr hns
  have hrl2 := Zb8 hr hnc
  have hwo := Za1 (s := s) x hr
  refine Za <| gm rfl rfl <| gr rfl (Zx Tryz.underlying23 rfl V6 rfl (by exact ZH 2 (off := 0) (k := 3) rfl rfl) rfl) ?_
  refine Zs (Xb [_, _, _] q.hl rfl rfl (vf := []) (vc := []) rfl rfl Tryz.call47 rfl (fun w how hc => kept_okP q V n hqo _ w hc s bp (hP.out (A := [_, _, _]) how) x hx0) ?_)
  rintro _ _ ⟨kr, kc, kr2, kc2, rfl, rfl⟩
  refine gm rfl rfl <| gr rfl (ZA rfl rfl) <| gr rfl (ZA rfl rfl) <| ZU (fun hks => ?_) (fun hks => ?_)
  · obtain ⟨kp, hkp⟩ := Option.isSome_iff_exists.1 hks
    have hko := hkv hx0 kp hkp
    have hkD : kD V x = kp := by unfold kD; rw [hkp]; rfl
    rw [hkD]
    refine Zs (ZR Yr rfl rfl (fun b10 => ?_))
    refine Zs (Zz 0 Yr rfl rfl rfl rfl rfl rfl (by rfl) ?_)
    refine gas rfl rfl <| gA <| Zb <| Zb <| Za <| gm rfl rfl <| gr rfl (rd_not rfl) <| gA <| Zn rfl <| Zt <| Zg <| Zb <| Za <| gm rfl rfl <| gr rfl (Zx Tryz.underlying23 rfl V6 rfl (by exact ZH 3 (off := 0) (k := 3) rfl rfl) rfl) ?_
    refine gr rfl (Zx Tryz.underlying26 rfl Yr rfl (by exact ZH 0 (off := 0) (k := 2) rfl rfl) rfl) ?_
    refine gr rfl (Zx Tryz.underlying26 rfl Yr rfl (by exact ZH 2 (off := 0) (k := 2) rfl rfl) rfl) ?_
    refine Zs (ZD rfl (vf := []) (vc := []) rfl rfl Tryz.call48 (fun w1 ho => Zli s bp q.bs w1 (hP.at ho) x kp r hko hr (Yb kr) (Yb kr2) a1 a2 kc kc2 c1 c2 (ho.rowSl 4 rfl) (ho.rowSl 5 rfl) (h1.at ho) (h2.at ho)) ?_)
    rintro _ _ ⟨rS, cS, rC, cC, rfl, rfl⟩
    refine Zs (Zz 3 Yr rfl rfl rfl rfl rfl rfl (by rfl) ?_)
    refine gas rfl rfl <| gA <| Zr <| V5 (.inl rfl) Tryz.results16 (Yw Tryz.underlying26 rfl Yr rfl (by rfl) (ZH 3 (off := 0) (k := 2) rfl rfl)) (YH rfl) (Z4 (A := [_, _]) (B := [_, _, _, _, _, _, _, _]) (T := q.hl) [0, 1] 8 (by decide) (by decide) rfl rfl) ?_
    exact ⟨0, Vx s x kp r, rS, cS, rC, cC, rfl, rfl, .inr ⟨hz, hqo, hx0, r, rfl, rfl, hr, .inr ⟨kp, hkp, rfl, rfl⟩⟩⟩
  have hkn : W5 V x = none := by simpa using hks
  refine Zs (ZR Yr rfl rfl (fun b10 => ?_))
  refine Zs (Zz 0 Yr rfl rfl rfl rfl rfl rfl (by rfl) ?_)
  refine gas rfl rfl <| gA <| Zb <| Zb <| Za <| gm rfl rfl <| gr rfl (rd_not rfl) <| gA <| Zm rfl <| Zb <| Xu 3 1 <| Xu 3 1 <| Za <| gr rfl (ZP rfl (fun _ => Zkq)) ?_
  refine Zs (Zz 3 Yr rfl rfl rfl rfl rfl rfl (by rfl) ?_)
  refine gas rfl rfl <| gA <| Zr <| Zh <| V5 (.inl rfl) Tryz.results16 (Yw Tryz.underlying26 rfl Yr rfl (by rfl) (ZH 3 (off := 0) (k := 2) rfl rfl)) (YH rfl) (Z4 (A := [_, _]) (B := [_, _, _, _, _, _, _, _]) (T := q.hl) [0, 1] 8 (by decide) (by decide) rfl rfl) ?_
  exact ⟨4, ([], []), none, 0, none, 0, rfl, rfl, .inr ⟨hz, hqo, hx0, r, rfl, rfl, hr, .inl ⟨hkn, rfl, rfl⟩⟩⟩
namespace Ip
def SS.cap (q : SS) : Nat := 10 * (q.f.b.length / 256 - 2)
theorem SS.Like.cap {q q2 : SS} (h : q.Like q2) : q2.cap = q.cap := by unfold SS.cap; rw [h.len]
structure PSt (s : Org) (q : SS) (V : Yo) (n : Nat) (U : List Pis) (L : List (Pis × Rg)) : Prop where
  ok : q.Ok V n
  pr : PR s.ds.length s.ss.length s.cs.length V U L
section
variable {s : Org} {q : SS} {V : Yo} {n : Nat} {U : List Pis} {L : List (Pis × Rg)}
theorem PSt.mlen (h : PSt s q V n U L) : q.m.length = U.length + 1 := by
  have hk : ∀ k, k ∈ (plain q.m).map En.key ↔ V k ≠ none := fun k => by
    constructor
    · intro hk
      obtain ⟨x, hx⟩ := Option.isSome_iff_exists.1 (Zb0 hk)
      rw [(h.ok.st.si.so k x hx).2.2]; simp
    · intro hv
      cases e : YE k (plain q.m) with
      | none => exact absurd (h.ok.st.si.no k e) hv
      | some y => exact Zjw e
  have := h.pr.count h.ok.st.si.nd hk
  simpa [plain] using this
theorem PSt.full (h : PSt s q V n U L) {x : Pis} (hx : pnE s.ds.length x = 0) : Zj9 V (keyN x) (10 * (q.f.b.length / 256 - 2)) q.m.length ↔ Zfe q.cap U x := by
  unfold Zj9 Zfe SS.cap
  rw [h.pr.v1 x hx, h.mlen]
theorem PSt.kept (h : PSt s q V n U L) {x : Pis} (hx : pnE s.ds.length x = 0) : W5 V x = J5 L x := h.pr.kept hx
theorem PSt.rg (h : PSt s q V n U L) {x : Pis} (hx : pnE s.ds.length x = 0) {r : Rg} (hk : W5 V x = some r) : RgOk s.ss.length s.cs.length r := by
  rw [h.kept hx, place_is h.pr.srt] at hk
  exact (h.pr.lok _ hk).2
theorem SS.Ok.mono {q : SS} {V : Yo} {n m : Nat} (h : q.Ok V n) (hm : n ≤ m) : q.Ok V m := ⟨h.st, Nat.le_trans h.pr (Nat.mul_le_mul_left _ hm), Nat.le_trans h.er hm, Nat.le_trans h.num hm⟩
theorem PSt.mono (h : PSt s q V n U L) {m : Nat} (hm : n ≤ m) : PSt s q V m U L := ⟨h.ok.mono hm, h.pr⟩
theorem SS.Torn.mono {q : SS} {V V2 : Yo} {n m : Nat} (h : q.Torn n V V2) (hm : n ≤ m) : q.Torn m V V2 := by
  obtain ⟨V', N, h1, h2⟩ := h.fi
  exact ⟨h.ok, h.dn, ⟨V', N, Nat.le_trans h1 hm, h2⟩, h.sp, Nat.le_trans h.pr (Nat.mul_le_mul_left _ hm), Nat.le_trans h.er hm⟩
end
end Ip
open Ip
namespace Ip
end Ip
open Ip
namespace Ip
end Ip
open Ip
namespace Ip
abbrev Pis.cells (x : Pis) : List Value := [.int .i64 x.lv, .int .i64 x.dv, .int .i64 x.nm]
def keepB (V : Yo) (qf : Pis → Rg → Bool) (x : Pis) : Bool := match W5 V x with | some r => qf x r | none => false
end Ip
open Ip
namespace Ip
end Ip
open Ip
namespace Ip
end Ip
open Ip
namespace Ip
theorem PSt.listed {s : Org} {q : SS} {V : Yo} {n : Nat} {U : List Pis} {L : List (Pis × Rg)} (h : PSt s q V n U L) (qf : Pis → Rg → Bool) : (allA s.ds.length).filter (keepB V qf) = (L.filter fun p => qf p.1 p.2).map (·.1) := Znh h.pr qf
end Ip
open Ip
namespace Ip
def Done (s : Org) (q : SS) (n : Nat) (t : RS) (e : Int) (v : Value) (T : List HL) : Prop := ∃ (q2 : SS) (V2 : Yo), T = q2.hl ∧ q.Like q2 ∧ PSt s q2 V2 n t.1 t.2 ∧ v = .int .i64 e
def Broke (s : Org) (q : SS) (n : Nat) (t1 t2 : RS) (v : Value) (T : List HL) : Prop := v = .int .i64 9 ∧ q.f.left ≠ -1 ∧ ∃ (q2 : SS) (V1 V2 : Yo), T = q2.hl ∧ q.Like q2 ∧ q2.Torn n V1 V2 ∧ PR s.ds.length s.ss.length s.cs.length V1 t1.1 t1.2 ∧ PR s.ds.length s.ss.length s.cs.length V2 t2.1 t2.2
section
variable {s : Org} {q : SS} {V : Yo} {n : Nat} {t : RS} {x : Pis} {ss cs : List Int} {v : Value} {T : List HL}
theorem put_conv (h : PSt s q V n t.1 t.2) (hx : pnE s.ds.length x = 0) {vs : List Nat} {t2 : RS} (hpr : PR s.ds.length s.ss.length s.cs.length (Zay V (keyN x) (q.num + 1) vs) t2.1 t2.2) (hR : PutR q V n (keyN x) vs v T) :
    (Zfe q.cap t.1 x ∧ v = .int .i64 5 ∧ T = q.hl) ∨ (¬ Zfe q.cap t.1 x ∧ (Done s q (n + 1) t2 0 v T ∨ Broke s q (n + 1) t t2 v T)) := by
  have hf := h.full hx
  rcases hR with ⟨h1, rfl, rfl⟩ | ⟨h1, q2, rfl, hq2, hlk, rfl⟩ | ⟨h1, q2, rfl, hl, hq2, hlk, rfl⟩
  · exact .inl ⟨hf.1 h1, rfl, rfl⟩
  · exact .inr ⟨fun h2 => h1 (hf.2 h2), .inl ⟨q2, _, rfl, hlk, ⟨hq2, hpr⟩, rfl⟩⟩
  · exact .inr ⟨fun h2 => h1 (hf.2 h2), .inr ⟨rfl, hl, q2, _, _, rfl, hlk, hq2, h.pr, hpr⟩⟩
theorem Done.same (h : PSt s q V n t.1 t.2) {m : Nat} (hm : n ≤ m) {e : Int} : Done s q m t e (.int .i64 e) q.hl := ⟨q, V, rfl, SS.Like.refl q, h.mono hm, rfl⟩
theorem set_conv (h : PSt s q V n t.1 t.2) (hR : SetR s q V n x ss cs v T) :
    Done s q (n + 1) (J9 s q.cap t x ss cs).1 (J9 s q.cap t x ss cs).2 v T ∨ ((J9 s q.cap t x ss cs).2 = 0 ∧ Broke s q (n + 1) t (J9 s q.cap t x ss cs).1 v T) := by
  have h0 := h.ok.zero
  have hz : Wa [pnE s.ds.length x, X9 s.ss.length s.cs.length ss cs, q.err] = if pnE s.ds.length x ≠ 0 then pnE s.ds.length x else if X9 s.ss.length s.cs.length ss cs ≠ 0 then X9 s.ss.length s.cs.length ss cs else 0 := by
    rw [h0]; simp [Wa]
  unfold J9
  rcases hR with ⟨h1, rfl, rfl⟩ | ⟨h1, hq, hx, r, rfl, rfl, hr, hput⟩
  · rw [hz] at h1 ⊢
    by_cases hp : pnE s.ds.length x ≠ 0
    · rw [if_pos hp, if_pos hp]
      exact .inl (Done.same h (by omega))
    · rw [if_neg hp] at h1 ⊢
      by_cases hg : X9 s.ss.length s.cs.length ss cs ≠ 0
      · rw [if_pos hg, if_neg hp, if_pos hg]
        exact .inl (Done.same h (by omega))
      · rw [if_neg hg] at h1; exact absurd rfl h1
  · have hg : X9 s.ss.length s.cs.length (Y1 r.1) (Y1 r.2) = 0 := reg_of hr
    rw [if_neg (by omega), if_neg (by omega), Zgy]
    have hwo := Za1 (s := s) x hr
    rcases put_conv h hx (t2 := (Zfc t.1 x, Ze9 t.2 x (VR s x r))) (h.pr.set hx hwo (q.num + 1)) hput with ⟨hf, rfl, rfl⟩ | ⟨hf, hd⟩
    · rw [if_pos hf]
      exact .inl (Done.same h (by omega))
    · rw [if_neg hf]
      rcases hd with hd | hd
      · exact .inl hd
      · exact .inr ⟨rfl, hd⟩
theorem Zlj (h : PSt s q V n t.1 t.2) {e : Int} {p : Rg} (hR : Zmk s q V n x ss cs e p) : e = (Zb9 s t x ss cs).2 ∧ p = (Zb9 s t x ss cs).1 := by
  have h0 := h.ok.zero
  have hz : Wa [pnE s.ds.length x, X9 s.ss.length s.cs.length ss cs, q.err] = if pnE s.ds.length x ≠ 0 then pnE s.ds.length x else if X9 s.ss.length s.cs.length ss cs ≠ 0 then X9 s.ss.length s.cs.length ss cs else 0 := by
    rw [h0]; simp [Wa]
  unfold Zb9
  rcases hR with ⟨h1, rfl, rfl⟩ | ⟨h1, hq, hx, r, rfl, rfl, hr, hk⟩
  · rw [hz] at h1 ⊢
    by_cases hp : pnE s.ds.length x ≠ 0
    · rw [if_pos hp, if_pos hp]; exact ⟨rfl, rfl⟩
    · rw [if_neg hp] at h1 ⊢
      by_cases hg : X9 s.ss.length s.cs.length ss cs ≠ 0
      · rw [if_pos hg, if_neg hp, if_pos hg]; exact ⟨rfl, rfl⟩
      · rw [if_neg hg] at h1; exact absurd rfl h1
  · have hg : X9 s.ss.length s.cs.length (Y1 r.1) (Y1 r.2) = 0 := reg_of hr
    rw [if_neg (by omega), if_neg (by omega), Zgy, ← h.kept hx]
    rcases hk with ⟨hk, rfl, rfl⟩ | ⟨k, hk, rfl, rfl⟩
    · rw [hk]; exact ⟨rfl, rfl⟩
    · rw [hk]; exact ⟨rfl, rfl⟩
end
structure Ac where
  what : Nat
  x : Pis
  a1 : Option Addr
  c1 : Nat
  ss : List Int
  a2 : Option Addr
  c2 : Nat
  cs : List Int
  frm : Int
  to : Int
  deriving Inhabited
abbrev Ac.cells (a : Ac) : List Value := [.int .u8 (a.what : Int), .int .i64 a.x.lv, .int .i64 a.x.dv, .int .i64 a.x.nm, .slice a.a1 a.ss.length a.c1, .slice a.a2 a.cs.length a.c2, .int .i64 a.frm, .int .i64 a.to]
abbrev Ac.val (a : Ac) : Value := .agg #[.int .u8 (a.what : Int), .int .i64 a.x.lv, .int .i64 a.x.dv, .int .i64 a.x.nm, .slice a.a1 a.ss.length a.c1, .slice a.a2 a.cs.length a.c2, .int .i64 a.frm, .int .i64 a.to]
structure AcIn (a : Ac) (w : World) (S : List Nat) : Prop where
  s : OldSl w S a.a1 a.ss.length 1 (a.ss.map Vy)
  c : OldSl w S a.a2 a.cs.length 1 (a.cs.map Vy)
structure AcLe (a : Ac) : Prop where
  w : a.what < 256
  s : a.ss.length ≤ 140737488355328
  c : a.cs.length ≤ 140737488355328
theorem AcIn.at {a : Ac} {w0 w : World} {S : List Nat} {l : List HL} (h : AcIn a w0 S) (ho : Own w0 S w l) : AcIn a w [] := ⟨h.s.at ho, h.c.at ho⟩
structure AcsIn (la : Option Addr) (l : List Ac) (w : World) (S : List Nat) : Prop where
  t : OldSl w S la l.length 8 (l.flatMap Ac.cells)
  r : ∀ a ∈ l, AcIn a w S
theorem AcsIn.at {la : Option Addr} {l : List Ac} {w0 w : World} {S : List Nat} {h : List HL} (hi : AcsIn la l w0 S) (ho : Own w0 S w h) : AcsIn la l w [] := ⟨hi.t.at ho, fun a ha => (hi.r a ha).at ho⟩
end Ip
open Ip
theorem Same_ok (xs ys xt yt : List Int) (x1 y1 x2 y2 : Option Addr) (ca cb ca2 cb2 : Nat) (hxl : xs.length ≤ 140737488355328) (hxl2 : xt.length ≤ 140737488355328) (w0 : World) (hx : OldSl w0 [] x1 xs.length 1 (xs.map Vy)) (hx2 : OldSl w0 [] x2 xt.length 1 (xt.map Vy)) (hy : OldSl w0 [] y1 ys.length 1 (ys.map Vy)) (hy2 : OldSl w0 [] y2 yt.length 1 (yt.map Vy)) : Sp Tryz.prog 32 [.agg #[.slice x1 xs.length ca, .slice x2 xt.length ca2], .agg #[.slice y1 ys.length cb, .slice y2 yt.length cb2]] w0 [] (RV (.bool (decide (xs = ys) && decide (xt = yt)))) := by
  refine ZC Tryz.func32 rfl Tryz.ntmps32 rfl (Own.refl _) ?_
  simp only [ZS]
  refine Zb <| Za <| Zs (Ye rfl rfl rfl (fun b2 => ?_))
  refine Zs (Ye rfl rfl rfl (fun b3 => ?_))
  refine gas rfl rfl <| gA <| Zb <| Za <| gr rfl (Zc rfl (Xi _)) <| gr rfl (Zi Tryz.underlying24 rfl rfl (by exact Zp 1 rfl rfl)) ?_
  refine gr rfl (Zc rfl (Xi _)) <| gr rfl (Zi Tryz.underlying24 rfl rfl (by exact Zp 0 rfl rfl)) ?_
  refine Zs (ZD rfl (vf := []) (vc := []) rfl rfl Tryz.call74 (fun w1 ho => Zc7 xs ys x1 y1 ca cb hxl w1 (hx.at ho) (hy.at ho)) ?_)
  rintro _ _ ⟨rfl, rfl⟩
  refine ZU (fun h9 => ?_) (fun h9 => ?_)
  · refine gm rfl rfl <| Ze rfl rfl <| Zk rfl (Zc rfl (Xj _)) <| Ze rfl rfl (Zk rfl (Zi Tryz.underlying24 rfl rfl (by exact Zp 1 rfl rfl)) ?_)
    refine Ze rfl rfl <| Zk rfl (Zc rfl (Xj _)) <| Ze rfl rfl (Zk rfl (Zi Tryz.underlying24 rfl rfl (by exact Zp 0 rfl rfl)) ?_)
    refine Ze rfl rfl (ZD rfl (vf := []) (vc := []) rfl rfl Tryz.call74 (fun w1 ho => Zc7 xt yt x2 y2 ca2 cb2 hxl2 w1 (hx2.at ho) (hy2.at ho)) ?_)
    rintro _ _ ⟨rfl, rfl⟩
    refine gr rfl (Zo rfl rfl) <| gas rfl rfl <| gA <| Zr <| Zw (.inl rfl) Tryz.results32 rfl [] (by decide) ?_
    rw [h9, Bool.true_and]
    exact ⟨rfl, rfl⟩
  refine gm rfl rfl <| Zf rfl rfl rfl <| Zf rfl rfl rfl <| Zf rfl rfl rfl <| Zf rfl rfl rfl <| Zf rfl rfl rfl <| gr rfl (Zl rfl rfl) <| gas rfl rfl <| gA <| Zr <| Zw (.inl rfl) Tryz.results32 rfl [] (by decide) ?_
  rw [h9]
  exact ⟨rfl, rfl⟩
namespace Ip
theorem SameN_ok (k w : Rg) (a b a2 b2 : Option Addr) (ca cb ca2 cb2 : Nat) (h1 : k.1.length ≤ 140737488355328) (h2 : k.2.length ≤ 140737488355328) (w0 : World) (hx : OldSl w0 [] a k.1.length 1 (k.1.map natV)) (hx2 : OldSl w0 [] a2 k.2.length 1 (k.2.map natV)) (hy : OldSl w0 [] b w.1.length 1 (w.1.map natV)) (hy2 : OldSl w0 [] b2 w.2.length 1 (w.2.map natV)) : Sp Tryz.prog 32 [.agg #[.slice a k.1.length ca, .slice a2 k.2.length ca2], .agg #[.slice b w.1.length cb, .slice b2 w.2.length cb2]] w0 [] (RV (.bool (decide (k.1 = w.1) && decide (k.2 = w.2)))) := by
  have e := Same_ok (Y1 k.1) (Y1 w.1) (Y1 k.2) (Y1 w.2) a b a2 b2 ca cb ca2 cb2 (by rw [YN]; exact h1) (by rw [YN]; exact h2) w0 (by rw [YN, Ve]; exact hx) (by rw [YN, Ve]; exact hx2) (by rw [YN, Ve]; exact hy) (by rw [YN, Ve]; exact hy2)
  rw [YN, YN, YN, YN] at e
  have e1 : decide (Y1 k.1 = Y1 w.1) = decide (k.1 = w.1) := by rw [decide_eq_decide]; exact ⟨Zgt, fun h => by rw [h]⟩
  have e2 : decide (Y1 k.2 = Y1 w.2) = decide (k.2 = w.2) := by rw [decide_eq_decide]; exact ⟨Zgt, fun h => by rw [h]⟩
  rw [e1, e2] at e
  exact e
end Ip
namespace Ip
end Ip
namespace Ip
theorem fresh_fi {n : Nat} (h4 : 4 ≤ n) (h64 : n ≤ 64) : FI (flNew (List.replicate (256 * n) 255)).b 0 (fun _ => none) ∧ (∃ q, q < (flNew (List.replicate (256 * n) 255)).b.length / 256 ∧ Vv (flNew (List.replicate (256 * n) 255)).b q) := by
  have hF := Zgi h4 h64
  have hl := hF.len
  have hall : ∀ z ∈ (flNew (List.replicate (256 * n) 255)).b, z = 255 := fun z hz => List.eq_of_mem_replicate hz
  refine ⟨fi_new hall (by rw [hl]; omega) (by rw [hl]; omega), 0, by rw [hl]; omega, Ze5 (fun z hz => by rw [hall z hz]; decide) fun i hi => ?_⟩
  exact hall _ (Zlb (by rw [hl]; omega))
structure SS.New (q : SS) (n : Nat) : Prop where
  ok : q.Ok (fun _ => none) 1
  len : q.f.b.length = 256 * n
  left : q.f.left = -1
  st : q.f.st = 1
  m0 : q.m.length = 0
end Ip
theorem Zkc (n : Nat) (hn4 : 4 ≤ n) (hn64 : n ≤ 64) (w0 : World) : Sp Tryz.prog 11 [natV n] w0 [] (fun v L => ∃ q : SS, v = .tuple #[.pointer (some ⟨q.bf, 0, none⟩), .pointer (some ⟨q.bs, 0, none⟩)] ∧ q.New n ∧ L = q.hl) := by
  refine ZC Tryz.func11 rfl Tryz.ntmps11 rfl (Own.refl _) ?_
  simp only [ZS]
  refine Zb <| Za <| gas rfl rfl <| gas rfl rfl <| gA <| Zb <| Za <| gm rfl rfl <| Zs (ZD rfl (vf := []) (vc := []) rfl rfl Tryz.call34 (fun w1 ho => New_ok n hn4 hn64 w1) ?_)
  rintro _ _ ⟨bf, rb, cb, rfl, rfl⟩
  refine gm rfl rfl <| gr rfl (ZA rfl rfl) <| gr rfl (ZA rfl rfl) <| gas rfl rfl <| gas rfl rfl <| gA <| Zb <| Za <| gr rfl (Zq rfl) ?_
  obtain ⟨hfi, hsp⟩ := fresh_fi hn4 hn64
  have hF := Zgi hn4 hn64
  refine Zs (Yg [0, 1, 2] [] rfl (vf := []) (vc := []) rfl rfl Tryz.call28 (by decide) rfl (fun w how hc => OpenG_ok _ hF.ok bf rb cb none 0 0 _ hfi hsp (Zgq _) _ w hc (show (0 : Nat) + 1 < 4611686018427387904 by decide) (by rw [hF.er]; decide) hF.dn) ?_)
  rintro _ _ (⟨bs, bm, m, nb, T, num, f2, bk, rfl, hg, rfl⟩ | ⟨f2, rfl, hT, rfl⟩)
  · refine JJ [] (SS.mk f2 bs bf rb cb none 0 1 bm num bk m nb T).hl [] <| gm rfl rfl <| gr rfl (ZA rfl rfl) <| gr rfl (ZA rfl rfl) <| gas rfl rfl <| gas rfl rfl <| gA <| Zb <| Zb <| Za <| gm rfl rfl <| gr rfl (Z1 rfl rfl) (Zv (fun h19 => ?_) (fun h19 => ?_))
    · exact absurd rfl h19
    refine gm rfl rfl <| Ze rfl rfl <| Zk rfl (Zq rfl) <| Ze rfl rfl (Zk rfl (Z1 rfl rfl) (Zv (fun h22 => ?_) (fun h22 => ?_)))
    · exact absurd rfl h22
    refine gr rfl (Zl rfl rfl) <| gA <| Zn rfl <| Zt <| Zg <| Zb <| Za <| gm rfl rfl <| gm rfl rfl <| gas rfl rfl <| gas rfl rfl <| gA <| Zr <| XW (.inl rfl) Tryz.results11 rfl rfl (Z4 (A := []) (B := []) (T := (SS.mk f2 bs bf rb cb none 0 1 bm num bk m nb T).hl) [] 0 (by decide) (by decide) rfl rfl) ?_
    refine ⟨SS.mk f2 bs bf rb cb none 0 1 bm num bk m nb T, rfl, ⟨⟨hg.st, ?_, ?_, ?_⟩, ?_, ?_, ?_, ?_⟩, rfl⟩
    · show f2.pr ≤ 100000 * 1
      rw [hg.pr, hF.pr]; decide
    · show f2.er ≤ 1
      have := hg.er
      rw [hF.er] at this; exact this
    · show num ≤ 1
      have := hg.num; omega
    · show f2.b.length = 256 * n
      rw [hg.len]; exact hF.len
    · exact hg.no hF.left
    · show f2.st = 1
      rw [hg.hst]; rfl
    · have := Zgq 0 _ _ _ _ hg.st.si
      simpa [plain] using this
  exact absurd hF.left hT.no
end Go.Proofs.YthcbcdjkfefnlaaGreatDoor
namespace Go.Proofs.YthcbcdjkfefnlaaGreatDoor
open Go.Gv
open Go.RowKit
open Go.Sn hiding En keysP keysP_len stop_ok
open Go.Ps
open Iv Sx Ip
open Go.Deep Go.ChangeShapes Go.WideShapes
namespace Ip
theorem len5 {cs : List Value} (h : cs.length = 5) : ∃ a b c d e, cs = [a, b, c, d, e] := by
  match cs, h with
  | [a, b, c, d, e], _ => exact ⟨a, b, c, d, e, rfl⟩
section
variable {H : Type} {enc : TypeId × Value → H} {W : World} {base : Nat} {sp : Nat → Bool} {held : Bool}
theorem Zkd {n : Nat} {u v : Value} {x : DataW H × List MemPlace} (h : DataW.trod enc Tryz.prog W base sp held n 94 [u, v] = some x) (hw : ∀ b ∈ x.1.weights Tryz.prog 94, b ≤ reachBytes) : ∃ p q : Int, [u, v] = [.int .i64 p, .int .i64 q] := by
  obtain ⟨k, hl, hf⟩ := fld Tryz.underlying94 h hw
  obtain ⟨y0, t0, _⟩ := hf 0 _ 1 rfl (by kernel_rfl)
  obtain ⟨y1, t1, _⟩ := hf 1 _ 1 rfl (by kernel_rfl)
  obtain ⟨p, rfl⟩ := W6 Tryz.underlying3 (show DataW.trod enc Tryz.prog W base sp held k 3 [u] = some y0 from t0)
  obtain ⟨q, rfl⟩ := W6 Tryz.underlying3 (show DataW.trod enc Tryz.prog W base sp held k 3 [v] = some y1 from t1)
  exact ⟨p, q, rfl⟩
theorem openDv {n : Nat} {cs : List Value} {x : DataW H × List MemPlace} (h : DataW.trod enc Tryz.prog W base sp held n 109 cs = some x) (hw : ∀ b ∈ x.1.weights Tryz.prog 109, b ≤ reachBytes) : ∃ g : Dv, cs = g.cells ∧ g.name.size ≤ 140737488355328 := by
  obtain ⟨k, hl, hf⟩ := fld Tryz.underlying109 h hw
  rw [show Tryz.prog.cellsOf 109 = 3 by kernel_rfl] at hl
  obtain ⟨u0, u1, u2, rfl⟩ := len3 hl
  obtain ⟨y0, t0, w0⟩ := hf 0 _ 1 rfl (by kernel_rfl)
  replace t0 : DataW.trod enc Tryz.prog W base sp held k 9 [u0] = some y0 := t0
  obtain ⟨z0, rfl, b0⟩ := leafS Tryz.underlying9 t0 w0
  obtain ⟨y1, t1, w1⟩ := hf 1 _ 1 rfl (by kernel_rfl)
  replace t1 : DataW.trod enc Tryz.prog W base sp held k 3 [u1] = some y1 := t1
  obtain ⟨z1, rfl⟩ := W6 Tryz.underlying3 t1
  obtain ⟨y2, t2, w2⟩ := hf 2 _ 1 rfl (by kernel_rfl)
  replace t2 : DataW.trod enc Tryz.prog W base sp held k 3 [u2] = some y2 := t2
  obtain ⟨z2, rfl⟩ := W6 Tryz.underlying3 t2
  exact ⟨⟨z0, z1, z2⟩, rfl, b0⟩
theorem openRk {n : Nat} {cs : List Value} {x : DataW H × List MemPlace} (h : DataW.trod enc Tryz.prog W base sp held n 111 cs = some x) (hw : ∀ b ∈ x.1.weights Tryz.prog 111, b ≤ reachBytes) : ∃ g : Rk, cs = g.cells ∧ g.name.size ≤ 140737488355328 := by
  obtain ⟨k, hl, hf⟩ := fld Tryz.underlying111 h hw
  rw [show Tryz.prog.cellsOf 111 = 6 by kernel_rfl] at hl
  obtain ⟨u0, u1, u2, u3, u4, u5, rfl⟩ := len6 hl
  obtain ⟨y0, t0, w0⟩ := hf 0 _ 1 rfl (by kernel_rfl)
  replace t0 : DataW.trod enc Tryz.prog W base sp held k 9 [u0] = some y0 := t0
  obtain ⟨z0, rfl, b0⟩ := leafS Tryz.underlying9 t0 w0
  obtain ⟨y1, t1, w1⟩ := hf 1 _ 1 rfl (by kernel_rfl)
  replace t1 : DataW.trod enc Tryz.prog W base sp held k 3 [u1] = some y1 := t1
  obtain ⟨z1, rfl⟩ := W6 Tryz.underlying3 t1
  obtain ⟨y2, t2, w2⟩ := hf 2 _ 2 rfl (by kernel_rfl)
  replace t2 : DataW.trod enc Tryz.prog W base sp held k 94 [u2, u3] = some y2 := t2
  obtain ⟨p2, q2, e2⟩ := Zkd t2 w2
  simp only [List.cons.injEq, and_true] at e2
  obtain ⟨rfl, rfl⟩ := e2
  obtain ⟨y3, t3, w3⟩ := hf 3 _ 1 rfl (by kernel_rfl)
  replace t3 : DataW.trod enc Tryz.prog W base sp held k 3 [u4] = some y3 := t3
  obtain ⟨z3, rfl⟩ := W6 Tryz.underlying3 t3
  obtain ⟨y4, t4, w4⟩ := hf 4 _ 1 rfl (by kernel_rfl)
  replace t4 : DataW.trod enc Tryz.prog W base sp held k 3 [u5] = some y4 := t4
  obtain ⟨z4, rfl⟩ := W6 Tryz.underlying3 t4
  exact ⟨⟨z0, z1, p2, q2, z3, z4⟩, rfl, b0⟩
theorem openPt {n : Nat} {cs : List Value} {x : DataW H × List MemPlace} (h : DataW.trod enc Tryz.prog W base sp held n 96 cs = some x) (hw : ∀ b ∈ x.1.weights Tryz.prog 96, b ≤ reachBytes) : ∃ g : Pt, cs = g.cells ∧ True := by
  obtain ⟨k, hl, hf⟩ := fld Tryz.underlying96 h hw
  rw [show Tryz.prog.cellsOf 96 = 4 by kernel_rfl] at hl
  obtain ⟨u0, u1, u2, u3, rfl⟩ := len4 hl
  obtain ⟨y0, t0, w0⟩ := hf 0 _ 1 rfl (by kernel_rfl)
  replace t0 : DataW.trod enc Tryz.prog W base sp held k 3 [u0] = some y0 := t0
  obtain ⟨z0, rfl⟩ := W6 Tryz.underlying3 t0
  obtain ⟨y1, t1, w1⟩ := hf 1 _ 1 rfl (by kernel_rfl)
  replace t1 : DataW.trod enc Tryz.prog W base sp held k 3 [u1] = some y1 := t1
  obtain ⟨z1, rfl⟩ := W6 Tryz.underlying3 t1
  obtain ⟨y2, t2, w2⟩ := hf 2 _ 1 rfl (by kernel_rfl)
  replace t2 : DataW.trod enc Tryz.prog W base sp held k 3 [u2] = some y2 := t2
  obtain ⟨z2, rfl⟩ := W6 Tryz.underlying3 t2
  obtain ⟨y3, t3, w3⟩ := hf 3 _ 1 rfl (by kernel_rfl)
  replace t3 : DataW.trod enc Tryz.prog W base sp held k 3 [u3] = some y3 := t3
  obtain ⟨z3, rfl⟩ := W6 Tryz.underlying3 t3
  exact ⟨⟨z0, z1, z2, z3⟩, rfl, trivial⟩
theorem openPts {n : Nat} {cs : List Value} {x : DataW H × List MemPlace} (h : DataW.trod enc Tryz.prog W base sp held n 97 cs = some x) (hw : ∀ b ∈ x.1.weights Tryz.prog 97, b ≤ reachBytes) :
    ∃ (a : Option Addr) (gs : List Pt) (cp : Nat), cs = [.slice a gs.length cp] ∧ OldSl W [] a gs.length 4 (gs.flatMap Pt.cells) ∧ gs.length ≤ 140737488355328 ∧ gs.length ≤ cp ∧ ∀ g ∈ gs, (fun _ => True) g :=
  Zb5 Pt.cells (fun _ => True) 4 97 96 32 (fun _ => rfl) (by decide) Tryz.underlying97 (by kernel_rfl) (by kernel_rfl) (by decide) (fun n cs x h hw => openPt h hw) h hw
def StG (W : World) (g : St) : Prop := g.name.size ≤ 140737488355328 ∧ OldSl W [] g.pa g.ps.length 4 (g.ps.flatMap Pt.cells) ∧ g.ps.length ≤ 140737488355328 ∧ g.ps.length ≤ g.pc
theorem openSt {n : Nat} {cs : List Value} {x : DataW H × List MemPlace} (h : DataW.trod enc Tryz.prog W base sp held n 99 cs = some x) (hw : ∀ b ∈ x.1.weights Tryz.prog 99, b ≤ reachBytes) : ∃ g : St, cs = g.cells ∧ StG W g := by
  obtain ⟨k, hl, hf⟩ := fld Tryz.underlying99 h hw
  rw [show Tryz.prog.cellsOf 99 = 5 by kernel_rfl] at hl
  obtain ⟨u0, u1, u2, u3, u4, rfl⟩ := len5 hl
  obtain ⟨y0, t0, w0⟩ := hf 0 _ 1 rfl (by kernel_rfl)
  replace t0 : DataW.trod enc Tryz.prog W base sp held k 9 [u0] = some y0 := t0
  obtain ⟨z0, rfl, b0⟩ := leafS Tryz.underlying9 t0 w0
  obtain ⟨y1, t1, w1⟩ := hf 1 _ 1 rfl (by kernel_rfl)
  replace t1 : DataW.trod enc Tryz.prog W base sp held k 3 [u1] = some y1 := t1
  obtain ⟨z1, rfl⟩ := W6 Tryz.underlying3 t1
  obtain ⟨y2, t2, w2⟩ := hf 2 _ 2 rfl (by kernel_rfl)
  replace t2 : DataW.trod enc Tryz.prog W base sp held k 94 [u2, u3] = some y2 := t2
  obtain ⟨p2, q2, e2⟩ := Zkd t2 w2
  simp only [List.cons.injEq, and_true] at e2
  obtain ⟨rfl, rfl⟩ := e2
  obtain ⟨y3, t3, w3⟩ := hf 3 _ 1 rfl (by kernel_rfl)
  replace t3 : DataW.trod enc Tryz.prog W base sp held k 97 [u4] = some y3 := t3
  obtain ⟨a3, l3, c3, e3, s3, m3, o3, g3⟩ := openPts t3 w3
  simp only [List.cons.injEq, and_true] at e3
  subst e3
  exact ⟨⟨z0, z1, p2, q2, a3, c3, l3⟩, rfl, b0, s3, m3, o3⟩
theorem openCp {n : Nat} {cs : List Value} {x : DataW H × List MemPlace} (h : DataW.trod enc Tryz.prog W base sp held n 113 cs = some x) (hw : ∀ b ∈ x.1.weights Tryz.prog 113, b ≤ reachBytes) : ∃ g : Cp, cs = g.cells ∧ g.name.size ≤ 140737488355328 := by
  obtain ⟨k, hl, hf⟩ := fld Tryz.underlying113 h hw
  rw [show Tryz.prog.cellsOf 113 = 6 by kernel_rfl] at hl
  obtain ⟨u0, u1, u2, u3, u4, u5, rfl⟩ := len6 hl
  obtain ⟨y0, t0, w0⟩ := hf 0 _ 1 rfl (by kernel_rfl)
  replace t0 : DataW.trod enc Tryz.prog W base sp held k 9 [u0] = some y0 := t0
  obtain ⟨z0, rfl, b0⟩ := leafS Tryz.underlying9 t0 w0
  obtain ⟨y1, t1, w1⟩ := hf 1 _ 1 rfl (by kernel_rfl)
  replace t1 : DataW.trod enc Tryz.prog W base sp held k 3 [u1] = some y1 := t1
  obtain ⟨z1, rfl⟩ := W6 Tryz.underlying3 t1
  obtain ⟨y2, t2, w2⟩ := hf 2 _ 1 rfl (by kernel_rfl)
  replace t2 : DataW.trod enc Tryz.prog W base sp held k 3 [u2] = some y2 := t2
  obtain ⟨z2, rfl⟩ := W6 Tryz.underlying3 t2
  obtain ⟨y3, t3, w3⟩ := hf 3 _ 1 rfl (by kernel_rfl)
  replace t3 : DataW.trod enc Tryz.prog W base sp held k 3 [u3] = some y3 := t3
  obtain ⟨z3, rfl⟩ := W6 Tryz.underlying3 t3
  obtain ⟨y4, t4, w4⟩ := hf 4 _ 1 rfl (by kernel_rfl)
  replace t4 : DataW.trod enc Tryz.prog W base sp held k 3 [u4] = some y4 := t4
  obtain ⟨z4, rfl⟩ := W6 Tryz.underlying3 t4
  obtain ⟨y5, t5, w5⟩ := hf 5 _ 1 rfl (by kernel_rfl)
  replace t5 : DataW.trod enc Tryz.prog W base sp held k 4 [u5] = some y5 := t5
  obtain ⟨z5, rfl⟩ := leafB Tryz.underlying4 t5
  exact ⟨⟨z0, z1, z2, z3, z4, z5⟩, rfl, b0⟩
theorem openDvs {n : Nat} {cs : List Value} {x : DataW H × List MemPlace} (h : DataW.trod enc Tryz.prog W base sp held n 40 cs = some x) (hw : ∀ b ∈ x.1.weights Tryz.prog 40, b ≤ reachBytes) :
    ∃ (a : Option Addr) (gs : List Dv) (cp : Nat), cs = [.slice a gs.length cp] ∧ OldSl W [] a gs.length 3 (gs.flatMap Dv.cells) ∧ gs.length ≤ 140737488355328 ∧ gs.length ≤ cp ∧ ∀ g ∈ gs, (fun g : Dv => g.name.size ≤ 140737488355328) g :=
  Zb5 Dv.cells (fun g : Dv => g.name.size ≤ 140737488355328) 3 40 109 32 (fun _ => rfl) (by decide) Tryz.underlying40 (by kernel_rfl) (by kernel_rfl) (by decide) (fun n cs x h hw => openDv h hw) h hw
theorem openRks {n : Nat} {cs : List Value} {x : DataW H × List MemPlace} (h : DataW.trod enc Tryz.prog W base sp held n 41 cs = some x) (hw : ∀ b ∈ x.1.weights Tryz.prog 41, b ≤ reachBytes) :
    ∃ (a : Option Addr) (gs : List Rk) (cp : Nat), cs = [.slice a gs.length cp] ∧ OldSl W [] a gs.length 6 (gs.flatMap Rk.cells) ∧ gs.length ≤ 140737488355328 ∧ gs.length ≤ cp ∧ ∀ g ∈ gs, (fun g : Rk => g.name.size ≤ 140737488355328) g :=
  Zb5 Rk.cells (fun g : Rk => g.name.size ≤ 140737488355328) 6 41 111 56 (fun _ => rfl) (by decide) Tryz.underlying41 (by kernel_rfl) (by kernel_rfl) (by decide) (fun n cs x h hw => openRk h hw) h hw
theorem openSts {n : Nat} {cs : List Value} {x : DataW H × List MemPlace} (h : DataW.trod enc Tryz.prog W base sp held n 42 cs = some x) (hw : ∀ b ∈ x.1.weights Tryz.prog 42, b ≤ reachBytes) :
    ∃ (a : Option Addr) (gs : List St) (cp : Nat), cs = [.slice a gs.length cp] ∧ OldSl W [] a gs.length 5 (gs.flatMap St.cells) ∧ gs.length ≤ 140737488355328 ∧ gs.length ≤ cp ∧ ∀ g ∈ gs, (StG W) g :=
  Zb5 St.cells (StG W) 5 42 99 64 (fun _ => rfl) (by decide) Tryz.underlying42 (by kernel_rfl) (by kernel_rfl) (by decide) (fun n cs x h hw => openSt h hw) h hw
theorem openCps {n : Nat} {cs : List Value} {x : DataW H × List MemPlace} (h : DataW.trod enc Tryz.prog W base sp held n 43 cs = some x) (hw : ∀ b ∈ x.1.weights Tryz.prog 43, b ≤ reachBytes) :
    ∃ (a : Option Addr) (gs : List Cp) (cp : Nat), cs = [.slice a gs.length cp] ∧ OldSl W [] a gs.length 6 (gs.flatMap Cp.cells) ∧ gs.length ≤ 140737488355328 ∧ gs.length ≤ cp ∧ ∀ g ∈ gs, (fun g : Cp => g.name.size ≤ 140737488355328) g :=
  Zb5 Cp.cells (fun g : Cp => g.name.size ≤ 140737488355328) 6 43 113 56 (fun _ => rfl) (by decide) Tryz.underlying43 (by kernel_rfl) (by kernel_rfl) (by decide) (fun n cs x h hw => openCp h hw) h hw
theorem Zml {n : Nat} {cs : List Value} {x : DataW H × List MemPlace} (h : DataW.trod enc Tryz.prog W base sp held n 45 cs = some x) (hw : ∀ b ∈ x.1.weights Tryz.prog 45, b ≤ reachBytes) : ∃ g : Org, cs = g.cells ∧ OrgIn g W [] ∧ OrgLe g := by
  obtain ⟨k, hl, hf⟩ := fld Tryz.underlying45 h hw
  rw [show Tryz.prog.cellsOf 45 = 4 by kernel_rfl] at hl
  obtain ⟨u0, u1, u2, u3, rfl⟩ := len4 hl
  obtain ⟨y0, t0, w0⟩ := hf 0 _ 1 rfl (by kernel_rfl)
  replace t0 : DataW.trod enc Tryz.prog W base sp held k 40 [u0] = some y0 := t0
  obtain ⟨a0, l0, c0, e0, s0, m0, o0, g0⟩ := openDvs t0 w0
  simp only [List.cons.injEq, and_true] at e0
  subst e0
  obtain ⟨y1, t1, w1⟩ := hf 1 _ 1 rfl (by kernel_rfl)
  replace t1 : DataW.trod enc Tryz.prog W base sp held k 41 [u1] = some y1 := t1
  obtain ⟨a1, l1, c1, e1, s1, m1, o1, g1⟩ := openRks t1 w1
  simp only [List.cons.injEq, and_true] at e1
  subst e1
  obtain ⟨y2, t2, w2⟩ := hf 2 _ 1 rfl (by kernel_rfl)
  replace t2 : DataW.trod enc Tryz.prog W base sp held k 42 [u2] = some y2 := t2
  obtain ⟨a2, l2, c2, e2, s2, m2, o2, g2⟩ := openSts t2 w2
  simp only [List.cons.injEq, and_true] at e2
  subst e2
  obtain ⟨y3, t3, w3⟩ := hf 3 _ 1 rfl (by kernel_rfl)
  replace t3 : DataW.trod enc Tryz.prog W base sp held k 43 [u3] = some y3 := t3
  obtain ⟨a3, l3, c3, e3, s3, m3, o3, g3⟩ := openCps t3 w3
  simp only [List.cons.injEq, and_true] at e3
  subst e3
  exact ⟨⟨a0, c0, l0, a1, c1, l1, a2, c2, l2, a3, c3, l3⟩, rfl, ⟨s0, s1, s2, s3, fun x hx => (g2 x hx).2.1⟩, ⟨m0, m1, m2, m3, fun x hx => (g2 x hx).2.2.1, fun x hx => (g2 x hx).2.2.2, g0, g1, fun x hx => (g2 x hx).1, g3⟩⟩
end
end Ip
end Go.Proofs.YthcbcdjkfefnlaaGreatDoor
namespace Go.Proofs.YthcbcdjkfefnlaaGreatDoor
open Go.Gv
open Go.RowKit
open Go.Sn hiding En keysP keysP_len stop_ok
open Go.Ps
open Iv Sx Ip
open Go.ChangeShapes Go.WideShapes Go.ChangeAt Go.WideMaps Go.WideElems
namespace Ip
theorem tryLaid : laidOutB Tryz.prog = true := by kernel_rfl
theorem tryOwn : ownKnob Tryz.prog.godebug = none := by kernel_rfl
theorem stays {H : Type} {enc : TypeId × Value → H} {W W' : World} (hb : Below W.heap.size W W') {sp : Nat → Bool} : ∀ {ts : List TypeId} {vs : List Value} {ds : List (DataW H)} {p : List MemPlace},
    DataW.TrodAll enc Tryz.prog W 0 (fun _ => true) true ts vs ds p → (∀ t ∈ ts, Tryz.prog.readableRec t = true ∧ t < Tryz.prog.types.size) → (∀ x ∈ p, x.block < W.heap.size) → (∀ x ∈ p, sp x.block = true) → DataW.TrodAll enc Tryz.prog W' 0 sp true ts vs ds p
  | [], _, _, _, h, _, _, _ => by
    obtain ⟨rfl, rfl, rfl⟩ := trodAll_nil h
    exact h
  | t :: ts, _, _, _, h, hr, hlt, hsp => by
    obtain ⟨v, vs1, d, ds1, a, b, rfl, rfl, rfl, h1, h2⟩ := trodAll_cons h
    have hr1 := hr t (by simp)
    exact ⟨a, b, WideElems.Trod_stays tryLaid hr1.1 hr1.2 h1 (fun x hx => hb.same (hlt x (List.mem_append_left _ hx))) (fun x hx => hsp x (List.mem_append_left _ hx)),
      stays hb h2 (fun u hu => hr u (List.mem_cons_of_mem _ hu)) (fun x hx => hlt x (List.mem_append_right _ hx)) (fun x hx => hsp x (List.mem_append_right _ hx)), rfl⟩
theorem law_post {H : Type} {enc : TypeId × Value → H} {f : Func} {s : ChangeSpec} {fresh handsOn again : Bool} {W W' : World} {args : Array Value} {ds gs : List (DataW H)} {before : List MemPlace}
    (hW : DataW.Whole enc Tryz.prog f.params.toList s.vars false W args.toList ds gs before) (hv : s.vars = []) (hb : Below W.heap.size W W')
    (hrt : f.resultTypes = #[4]) (hres : (s.fn H ds).results = [.lit (.bool true)]) (hargs : (s.fn H ds).args = ds) (hvars : (s.fn H ds).vars = []) (hr : ∀ t ∈ f.params.toList, Tryz.prog.readableRec t = true ∧ t < Tryz.prog.types.size) :
    s.post enc Tryz.prog f false fresh handsOn again W args (.bool true) W' := by
  have hlt : ∀ x ∈ before, x.block < W.heap.size := fun x hx => by simpa using hW.lt x hx
  have hW0 := hW
  obtain ⟨p, q, hA, hV, rfl, hz, hn⟩ := hW
  rw [hv] at hV
  obtain ⟨rfl, rfl⟩ := trodVars_none hV
  simp only [List.append_nil] at hz hlt hW0
  have hR : ∀ (b : Nat) (sp : Nat → Bool) (hd : Bool), DataW.TrodAll enc Tryz.prog W' b sp hd f.resultTypes.toList ((Value.bool true).resultList f.resultTypes.size) (s.fn H (ds ++ [])).results [] := fun b sp hd => by
    rw [List.append_nil, hres, hrt]
    exact trodAll_cons_mk (shut_bool Tryz.underlying4 _) trodAll_mk0
  have hA' : ∀ sp : Nat → Bool, (∀ x ∈ p, sp x.block = true) → DataW.TrodAll enc Tryz.prog W' 0 sp true f.params.toList args.toList (s.fn H (ds ++ [])).args p := fun sp hsp => by
    rw [List.append_nil, hargs]; exact stays hb hA hr hlt hsp
  have hVv : ∀ sp : Nat → Bool, DataW.TrodVars enc Tryz.prog W' sp s.vars (s.fn H (ds ++ [])).vars [] := fun sp => by
    rw [List.append_nil, hv, hvars]; rfl
  have hok : ∀ (j : Nat) (t : TypeId) (r : Value), f.resultTypes[j]? = some t → ((Value.bool true).resultList f.resultTypes.size)[j]? = some r → Value.okWide Tryz.prog W' .any 0 t r := ok_one hrt rfl (okWide_bool_mk Tryz.underlying4 _)
  refine ⟨ds, [], p, [], p, [], hW0, hR _ _ _, hA' _ (fun x hx => by simpa using hlt x hx), hVv _, World.keptBut_mono (fun x hx => ⟨hx, .inr (by simpa using hx)⟩) (hb.frame _), fun _ => ?_⟩
  refine ⟨hok, _, _, ([] ++ p) ++ [], ⟨[] ++ p, [], trodAll_append (hA' (fun _ => true) (fun _ _ => rfl)) (hR _ _ _), hVv _, rfl, ?_, fun h => by cases h⟩, ?_⟩
  · intro b off hp
    have hp' : MemPlace.cell b off ∈ p := by simpa using hp
    rw [hb.frozen (p := ⟨b, off, none⟩) (hlt _ hp')]
    exact hz b off hp'
  · intro x hx _
    simpa using hx
set_option maxRecDepth 100000
def laidL : List (String × DataW Unit) := [("math/bits.deBruijn32tab", Rows.laid_math_bits_deBruijn32tab), ("math/bits.deBruijn64tab", Rows.laid_math_bits_deBruijn64tab), ("internal/strconv.uint64pow10", Rows.laid_internal_strconv_uint64pow10)]
theorem door_met (os : Os) (args : Array Value) : laidMetH Tryz.prog laidL ((World.doorLaid Tryz.prog 400 os).forCall (fun _ _ => 0) ⟨#[], args, []⟩).memory :=
  laidMetH_of_parts3 (fuel := 8) (laidMet_of_run' 8 (by kernel_rfl) (by kernel_rfl)) (by kernel_rfl) (by kernel_rfl)
end Ip
end Go.Proofs.YthcbcdjkfefnlaaGreatDoor
namespace Go.Proofs.YthcbcdjkfefnlaaGreatDoor
open Go.Gv
open Go.RowKit
open Go.Sn hiding En keysP keysP_len stop_ok
open Go.Ps
open Iv Sx Ip
namespace Ip
section
variable {d r p1 p2 p3 t c : Nat}
theorem ex10_le : OrgLe (Zeq d r p1 p2 p3 t c) := by
  refine ⟨by show 1 ≤ 140737488355328; omega, by show 2 ≤ 140737488355328; omega, by show 3 ≤ 140737488355328; omega, by show 1 ≤ 140737488355328; omega, Zff (m := 16) (by omega) (by kernel_rfl), fun x hx => ?_, Zff (m := 16) (by omega) (by kernel_rfl), Zff (m := 16) (by omega) (by kernel_rfl), Zff (m := 16) (by omega) (by kernel_rfl), Zff (m := 16) (by omega) (by kernel_rfl)⟩
  have h : ((Zeq d r p1 p2 p3 t c).ss.all fun x => Nat.ble x.ps.length x.pc) = true := by kernel_rfl
  exact Nat.le_of_ble_eq_true (List.all_eq_true.1 h x hx)
theorem ex10_in {w : World} {S : List Nat} (hd : OldSl w S (Yb (some d)) 1 3 (exDs.flatMap Dv.cells)) (hr : OldSl w S (Yb (some r)) 2 6 (exRs.flatMap Rk.cells)) (ht : OldSl w S (Yb (some t)) 3 5 ((exSs p1 p2 p3).flatMap St.cells)) (hc : OldSl w S (Yb (some c)) 1 6 (exC1.flatMap Cp.cells)) (h1 : OldSl w S (Yb (some p1)) 1 4 (exP1.flatMap Pt.cells)) (h2 : OldSl w S (Yb (some p2)) 1 4 (exP2.flatMap Pt.cells)) (h3 : OldSl w S (Yb (some p3)) 1 4 (exP3.flatMap Pt.cells)) : OrgIn (Zeq d r p1 p2 p3 t c) w S := by
  refine ⟨hd, hr, ht, hc, fun x hx => ?_⟩
  change x ∈ exSs p1 p2 p3 at hx
  unfold exSs at hx
  rcases List.mem_cons.1 hx with rfl | hx
  · exact h1
  rcases List.mem_cons.1 hx with rfl | hx
  · exact h2
  rcases List.mem_cons.1 hx with rfl | hx
  · exact h3
  · cases hx
theorem ex10_chk : (Yj (Zeq d r p1 p2 p3 t c)).2 = 0 := by kernel_rfl
end
structure PsNew (s : Org) (q q2 : SS) (V2 : Yo) (c : Cl) : Prop where
  chk : (Yj s).2 = 0
  st : PSt (clS s c) q2 V2 2 [] []
  lk : q.Like q2
  nd : s.ds.length ≤ 6
  ns : s.ss.length ≤ 80
  nc : s.cs.length ≤ 24
theorem open_new {s : Org} {q : SS} {v : Value} {T : List HL} (h : OpenR s q (fun _ => none) 1 v T) :
    ((Yj s).2 ≠ 0 ∧ v = .tuple #[.pointer none, .int .i64 (Yj s).2] ∧ T = q.hl) ∨ ∃ (bp : Nat) (c : Cl) (q2 : SS) (V2 : Yo), v = .tuple #[.pointer (some ⟨bp, 0, none⟩), .int .i64 0] ∧ PsNew s q q2 V2 c ∧ T = psH s bp q2.bs c ++ q2.hl := by
  rcases h with ⟨h1, rfl, rfl⟩ | ⟨_, ⟨m, old, hv, _⟩, _⟩ | ⟨h1, bp, c, q2, V2, rfl, hq2, hlk, hV, rfl⟩
  · exact .inl ⟨h1, rfl, rfl⟩
  · cases hv
  · obtain ⟨hd, hs, hc⟩ := Zmj h1
    obtain ⟨_, rfl⟩ := hV.resolve_left (fun ⟨m, h, _⟩ => nomatch h)
    exact .inr ⟨bp, c, q2, _, rfl, ⟨h1, ⟨hq2, PR.start hd hs hc⟩, hlk, hd, hs, hc⟩, by rw [hlk.bs]⟩
theorem Zaa (q : SS) {n : Nat} (hn : q.New n) (h4 : 4 ≤ n) (S : List Nat) (w0 : World) (hown : Own w0 S w0 q.hl) (s : Org) (hle : OrgLe s) (hS : OrgIn s w0 S) : Sp Tryz.prog 12 [.pointer (some ⟨q.bs, 0, none⟩), s.val] w0 S (fun v T => ((Yj s).2 ≠ 0 ∧ v = .tuple #[.pointer none, .int .i64 (Yj s).2] ∧ T = q.hl) ∨ ∃ (bp : Nat) (c : Cl) (q2 : SS) (V2 : Yo), v = .tuple #[.pointer (some ⟨bp, 0, none⟩), .int .i64 0] ∧ PsNew s q q2 V2 c ∧ T = psH s bp q2.bs c ++ q2.hl) := by
  have hcap : (fun _ => none : Yo) 0 = none → q.m.length < 10 * (q.f.b.length / 256 - 2) := fun _ => by rw [hn.m0, hn.len]; omega
  exact (Zka q _ 1 hn.ok S w0 hown s hle hS (by decide) (fun m h => nomatch h) hcap hn.left).mono fun v T h => open_new h
theorem PsNew.left {s : Org} {q q2 : SS} {V2 : Yo} {c : Cl} (h : PsNew s q q2 V2 c) {n : Nat} (hn : q.New n) : q2.f.left = -1 := h.lk.no hn.left
theorem PsNew.cap {s : Org} {q q2 : SS} {V2 : Yo} {c : Cl} (h : PsNew s q q2 V2 c) {n : Nat} (hn : q.New n) : q2.cap = 10 * (n - 2) := by
  rw [h.lk.cap]; unfold SS.cap; rw [hn.len]; congr 2; omega
section
variable {s : Org} {q : SS} {V : Yo} {n : Nat} {t : RS} {x : Pis} {ss cs : List Int} {v : Value} {T : List HL}
theorem set_done (h : PSt s q V n t.1 t.2) (hl : q.f.left = -1) (hR : SetR s q V n x ss cs v T) : Done s q (n + 1) (J9 s q.cap t x ss cs).1 (J9 s q.cap t x ss cs).2 v T := (set_conv h hR).resolve_right fun h => h.2.2.1 hl
end
end Ip
open Ip
namespace Ip
theorem Xp (l : List HL) : Sub [] l := ⟨[], by simp, rfl⟩
end Ip
theorem YO (w0 : World) : Sp Tryz.prog 10 [] w0 [] (RV (.bool true)) := by
  refine ZC Tryz.func10 rfl Tryz.ntmps10 rfl (Own.refl _) ?_
  simp only [ZS]
  refine Zb <| Za <| gas rfl rfl <| gA <| Zb <| Za <| Zs (ZD rfl (vf := []) (vc := []) rfl rfl Tryz.call11 (fun w1 ho => Zkc 4 (by decide) (by decide) w1) ?_)
  rintro _ _ ⟨q, rfl, hn, rfl⟩
  refine JJ [] q.hl [] <| gm rfl rfl <| gr rfl (ZA rfl rfl) <| gr rfl (ZA rfl rfl) <| gas rfl rfl <| gas rfl rfl <| gA <| Zb <| Za <| gm rfl rfl <| Zs (ZD rfl (vf := []) (vc := []) rfl rfl Tryz.call13 (fun w1 ho => ex10_ok w1) ?_)
  rintro _ _ ⟨xe, xd, xr, x1, x2, x3, xt, xc, rfl, rfl⟩
  refine Zs (Xb [_, _, _, _, _, _, _, _] q.hl rfl rfl (vf := []) (vc := []) rfl rfl Tryz.call12 rfl (fun w how hc => Zaa q hn (by decide) _ w hc (Zeq xd xr x1 x2 x3 xt xc) ex10_le (ex10_in (how.rowSlT (A := [_, _, _, _, _, _, _, _]) 7 rfl) (how.rowSlT (A := [_, _, _, _, _, _, _, _]) 6 rfl) (how.rowSlT (A := [_, _, _, _, _, _, _, _]) 2 rfl) (how.rowSlT (A := [_, _, _, _, _, _, _, _]) 1 rfl) (how.rowSlT (A := [_, _, _, _, _, _, _, _]) 5 rfl) (how.rowSlT (A := [_, _, _, _, _, _, _, _]) 4 rfl) (how.rowSlT (A := [_, _, _, _, _, _, _, _]) 3 rfl))) ?_)
  rintro _ _ (⟨hck, _⟩ | ⟨bp, c9, q2, V2, rfl, hp2, rfl⟩)
  · exact absurd ex10_chk hck
  rw [← hp2.lk.bs, ← hp2.lk.bf]
  have hst2 := hp2.st
  have hlf2 := hp2.left hn
  have hcap2 : q2.cap = 20 := hp2.cap hn
  refine gm rfl rfl <| gr rfl (ZA rfl rfl) <| gr rfl (ZA rfl rfl) <| gas rfl rfl <| gas rfl rfl <| gA <| Zb <| Zb <| Za <| gm rfl rfl <| gr rfl (Z1 rfl rfl) (Zv (fun h20 => ?_) (fun h20 => ?_))
  · exact absurd rfl h20
  refine gm rfl rfl <| Ze rfl rfl <| Zk rfl (Zq rfl) <| Ze rfl rfl <| Zk rfl (XC eg_36 Tryz.underlying36 rfl rfl) <| gr rfl (Zl rfl rfl) <| gA <| Zn rfl <| Zt <| Zg <| Zb <| Za <| gr rfl (ZP rfl (fun _ => Ziy _ _ _)) ?_
  refine Zs (ZR V6 rfl rfl (fun b5 => ?_))
  refine Zs (Zz 0 V6 rfl rfl rfl rfl rfl rfl (by rfl) ?_)
  refine gA <| Zb <| Za <| gm rfl rfl <| gr rfl (Zx Tryz.underlying23 rfl V6 rfl (by exact ZH 0 (off := 0) (k := 3) rfl rfl) rfl) ?_
  refine Zs (ZV (sz := 1) rfl rfl (fun _ => Zc6 _ _) rfl rfl (fun b28 => ?_))
  refine Zs (ZV (sz := 1) rfl rfl (fun _ => Xg _) rfl rfl (fun b29 => ?_))
  refine gr rfl (ZP rfl (fun _ => Zf4 _ _ _ _ _ _)) ?_
  refine Zs (Xb [_, _, _, _, _, _, _, _, _, _, _, _, _, _, _] q2.hl rfl rfl (vf := []) (vc := []) rfl rfl Tryz.call19 rfl (fun w how hc => Set_okP q2 V2 2 (.inl hst2.ok) _ w hc (by decide) (clS (Zeq xd xr x1 x2 x3 xt xc) c9) bp (psH_in (A := [_, _, _, _, _, _, _, _, _, _, _, _, _, _, _]) how 11 13 14 rfl rfl rfl hp2.nd hp2.ns hp2.nc) ⟨1, -1, 1⟩ [0, 2] [0] _ _ _ _ (by decide) (by decide) (how.rowSlT (A := [_, _, _, _, _, _, _, _, _, _, _, _, _, _, _]) 1 rfl) (how.rowSlT (A := [_, _, _, _, _, _, _, _, _, _, _, _, _, _, _]) 0 rfl)) ?_)
  rintro v9 T9 hput
  obtain ⟨q3, V3, rfl, hlk3, hst3, rfl⟩ := set_done (t := ([], [])) hst2 hlf2 hput
  have hlf3 := hlk3.no hlf2
  have hcap3 := hlk3.cap.trans hcap2
  have e3 : J9 (clS (Zeq xd xr x1 x2 x3 xt xc) c9) 20 ([], []) ⟨1, -1, 1⟩ [0, 2] [0] = (([⟨1, -1, 1⟩], [(⟨1, -1, 1⟩, ([0, 2], [0]))]), 0) := by kernel_rfl
  rw [hcap2, e3] at hst3
  rw [hcap2, e3]
  rw [← hlk3.bs]
  refine gas rfl rfl <| gA <| Zb <| Za <| gm rfl rfl <| gr rfl (Zx Tryz.underlying23 rfl V6 rfl (by exact ZH 2 (off := 0) (k := 3) rfl rfl) rfl) ?_
  refine Zs (ZV (sz := 1) rfl rfl (fun _ => Xg _) rfl rfl (fun b35 => ?_))
  refine gr rfl (ZP rfl (fun _ => bd_26_0 _ _ _)) ?_
  refine Zs (Xb [_, _, _, _, _, _, _, _, _, _, _, _, _, _, _, _] q3.hl rfl rfl (vf := []) (vc := []) rfl rfl Tryz.call16 rfl (fun w how hc => Znr q3 V3 3 (.inl hst3.ok) _ w hc (by decide) (clS (Zeq xd xr x1 x2 x3 xt xc) c9) bp (psH_in (A := [_, _, _, _, _, _, _, _, _, _, _, _, _, _, _, _]) how 12 14 15 rfl rfl rfl hp2.nd hp2.ns hp2.nc) ⟨1, -1, 1⟩ (fun hx r hk => hst3.rg hx hk) [1] [] _ _ _ _ (by decide) (by decide) (how.rowSlT (A := [_, _, _, _, _, _, _, _, _, _, _, _, _, _, _, _]) 0 rfl) (oldNil _ _ _)) ?_)
  rintro _ _ ⟨e, p, r, c, r2, c2, rfl, rfl, hpi⟩
  obtain ⟨rfl, rfl⟩ := Zlj (t := ([⟨1, -1, 1⟩], [(⟨1, -1, 1⟩, ([0, 2], [0]))])) hst3 hpi
  have e4 : Zb9 (clS (Zeq xd xr x1 x2 x3 xt xc) c9) ([⟨1, -1, 1⟩], [(⟨1, -1, 1⟩, ([0, 2], [0]))]) ⟨1, -1, 1⟩ [1] [] = (([0, 2], [0]), 0) := by kernel_rfl
  rw [e4]
  refine gm rfl rfl <| gr rfl (ZA rfl rfl) <| gr rfl (ZA rfl rfl) <| Zs (ZR Yr rfl rfl (fun b7 => ?_))
  refine Zs (Zz 0 Yr rfl rfl rfl rfl rfl rfl (by rfl) ?_)
  refine gas rfl rfl <| gA <| Zb <| Za <| gm rfl rfl <| gr rfl (Z5 rfl rfl) (Zv (fun h41 => ?_) (fun h41 => ?_))
  · refine gm rfl rfl <| Ze rfl rfl <| Zk rfl (Zq rfl) <| Ze rfl rfl (Zk rfl (Z5 rfl rfl) (Zv (fun h44 => ?_) (fun h44 => ?_)))
    · refine gr rfl (Zo rfl rfl) <| gm rfl rfl <| Ze rfl rfl (Zk rfl (Zx Tryz.underlying26 rfl Yr rfl (by exact ZH 0 (off := 0) (k := 2) rfl rfl) rfl) ?_)
      refine Ze rfl rfl (ZV (sz := 1) rfl rfl (fun _ => Zc6 _ _) rfl rfl (fun b48 => ?_))
      refine Ze rfl rfl (ZV (sz := 1) rfl rfl (fun _ => Xg _) rfl rfl (fun b49 => ?_))
      refine Ze rfl rfl (Zk rfl (ZP rfl (fun _ => Zf4 _ _ _ _ _ _)) ?_)
      refine Ze rfl rfl (ZD rfl (vf := []) (vc := []) rfl rfl Tryz.call32 (fun w1 ho => SameN_ok ([0, 2], [0]) ([0, 2], [0]) (Yb r) (some ⟨b48, 0, none⟩) (Yb r2) (some ⟨b49, 0, none⟩) c 2 c2 1 (by decide) (by decide) w1 (ho.rowSl 19 rfl) (ho.rowSl 20 rfl) (ho.rowSl 1 rfl) (ho.rowSl 0 rfl)) ?_)
      rintro _ _ ⟨rfl, rfl⟩
      refine gr rfl (Zo rfl rfl) <| gas rfl rfl <| gA <| Zr <| Z6 (.inl rfl) Tryz.results10 rfl (Xp _) ?_
      exact ⟨rfl, rfl⟩
    exact absurd rfl h44
  exact absurd rfl h41
namespace Ip
theorem fl_front (q : SS) : Sub (q.fl ++ (q.blk :: .obj q.bm (Xw HV q.m q.nb) :: q.T)) q.hl := Z4 (A := [_, _, _, _, _]) (B := [_, _, _, _, _]) (T := q.T) [2, 3, 4, 0, 1] 5 (by decide) (by decide) rfl rfl
theorem SS.flash {q : SS} {F : FuncId} {args : List Value} {w0 : World} {S : List Nat} {R : Value → List HL → Prop} (hown : Own w0 S w0 q.hl) (h : ∀ S', Own w0 S' w0 q.fl → Sp Tryz.prog F args w0 S' R) :
    Sp Tryz.prog F args w0 S (fun v L => ∃ L1, R v L1 ∧ L = L1 ++ (q.blk :: .obj q.bm (Xw HV q.m q.nb) :: q.T)) :=
  Sp.frame (l1 := q.fl) (l2 := q.blk :: .obj q.bm (Xw HV q.m q.nb) :: q.T) (hown.sub (fl_front q)) fun ho => h _ ho
def NonP (w : World) (p : Option Addr) : Prop := p = none ∨ ∃ b, p = some ⟨b, 0, none⟩ ∧ w.cell? ⟨b, 0, none⟩ = some (.bool false)
theorem NonP.at {w0 w : World} {l : List HL} {p : Option Addr} (h : NonP w0 p) (ho : Own w0 [] w l) : NonP w p := by
  rcases h with h | ⟨b, h, hc⟩
  · exact .inl h
  · exact .inr ⟨b, h, ho.cellOld hc (by simp)⟩
end Ip
open Ip
namespace Ip
section
variable {dm : List Deferred} {P : Program} {n : Nat} {e : Env} {w0 : World} {S : List Nat} {l : List HL} {dst : Option Tmp} {ty : TypeId} {pos : String} {aft : Array Edge} {gd : Option (Nat × Bool)} {t ty' : TypeId} {x y : Operand}
theorem Zc9 {E : TypeId} {a : Option Addr} (hgt : P.eqGuardType P.depth t = false) (hu : P.underlying t = some (.pointer E)) (hx : e.ev x = some (.pointer a)) (hy : e.ev y = some (.pointer none)) : Rd P dm n e w0 S l ⟨dst, .binOp .neq t x y ty', ty, pos, aft, gd⟩ (.bool (!a.isNone)) :=
  fun ac w hs ho => by
    have h := Zak (P := P) 9999 hu a w
    have h2 : (Op.equal t (.pointer a) (.pointer none)).run P w = .ok a.isNone w := h
    simp [execOp, hs.ev hx, hs.ev hy, eqGuard, binOp, hgt, h2]
end
theorem Zns {t : Org} {q : SS} {v : Value} {T : List HL} (h : ((Yj t).2 ≠ 0 ∧ v = .tuple #[.pointer none, .int .i64 (Yj t).2] ∧ T = q.hl) ∨ ∃ (bp : Nat) (c : Cl) (q2 : SS) (V2 : Yo), v = .tuple #[.pointer (some ⟨bp, 0, none⟩), .int .i64 0] ∧ PsNew t q q2 V2 c ∧ T = psH t bp q2.bs c ++ q2.hl) :
    ∃ p : Option Addr, v = .tuple #[.pointer p, .int .i64 (Yj t).2] ∧ (p = none ↔ (Yj t).2 ≠ 0) := by
  rcases h with ⟨h, rfl, _⟩ | ⟨bp, c, q2, V2, rfl, hp, _⟩
  · exact ⟨none, rfl, fun _ => h, fun _ => rfl⟩
  · exact ⟨_, by rw [hp.chk], by simp, fun h => absurd hp.chk h⟩
theorem Znt {s t : Org} {c : Cl} {q : SS} {V : Yo} {n : Nat} {U : List Pis} {L : List (Pis × Rg)} (hst : PSt (clS s c) q V n U L) {m : Nat} {v : Value} {T : List HL} (h : OpenR t q V m v T) :
    ∃ (p : Option Addr) (e : Int), v = .tuple #[.pointer p, .int .i64 e] ∧ (p = none ↔ e ≠ 0) ∧ e = (if (Yj t).2 ≠ 0 then (Yj t).2 else if mkS s = mkS t then 0 else 6) := by
  obtain ⟨m0, h0⟩ := hst.pr.v3
  rcases h with ⟨h, rfl, _⟩ | ⟨h, ⟨m1, old, hv, hne⟩, rfl, _⟩ | ⟨h, bp, c2, q2, V2, rfl, _, _, hV, _⟩
  · exact ⟨none, _, rfl, by simp [h], by rw [if_pos h]⟩
  · rw [h0] at hv
    obtain ⟨rfl, rfl⟩ := Prod.mk.inj (Option.some.inj hv)
    exact ⟨none, 6, rfl, by simp, by rw [if_neg (by omega), if_neg hne]⟩
  · have hm : mkS s = mkS t := by
      rcases hV with ⟨m1, hv, _⟩ | ⟨hv, _⟩
      · rw [h0] at hv
        exact (Prod.mk.inj (Option.some.inj hv)).2
      · rw [h0] at hv; cases hv
    exact ⟨_, 0, rfl, by simp, by rw [if_neg (by omega), if_pos hm]⟩
theorem PSt.noEmpty {s : Org} {q : SS} {V : Yo} {n : Nat} {U : List Pis} {L : List (Pis × Rg)} (hst : PSt s q V n U L) : (∀ m, V 0 ≠ some (m, [])) ∧ V 0 ≠ none := by
  obtain ⟨m0, h0⟩ := hst.pr.v3
  rw [h0]
  refine ⟨fun m h => ?_, by simp⟩
  have := (Prod.mk.inj (Option.some.inj h)).2
  cases this
end Ip
open Ip
theorem Zlk (s t : Org) (hle : OrgLe s) (hlt : OrgLe t) (w0 : World) (hS : OrgIn s w0 []) (hT : OrgIn t w0 []) : Sp Tryz.prog 5 [s.val, t.val] w0 [] (RV (.bool true)) := by
  refine ZC Tryz.func5 rfl Tryz.ntmps5 rfl (Own.refl _) ?_
  simp only [ZS]
  refine Zb <| Za <| Zs (Ye rfl rfl rfl (fun b2 => ?_))
  refine Zs (Ye rfl rfl rfl (fun b3 => ?_))
  refine gas rfl rfl <| gA <| Zb <| Zb <| Za <| gr rfl (Zx Tryz.underlying45 rfl XZ rfl (by exact ZH 1 (off := 0) (k := 4) rfl rfl) rfl) ?_
  refine Zs (ZD rfl (vf := []) (vc := []) rfl rfl Tryz.call23 (fun w1 ho => Zje s hle w1 (hS.at ho)) ?_)
  rintro _ _ ⟨fa, rfl, rfl⟩
  refine gm rfl rfl <| ZU (fun h16 => ?_) (fun h16 => ?_)
  · refine Zf rfl rfl rfl <| Zf rfl rfl rfl <| gr rfl (Zo rfl rfl) <| gA <| Zm rfl <| Zb <| Za <| Zs (ZD rfl (vf := []) (vc := []) rfl rfl Tryz.call10 (fun w1 ho => YO w1) ?_)
    rintro _ _ ⟨rfl, rfl⟩
    refine gas rfl rfl <| gA <| Zr <| Zh <| Z6 (.inl rfl) Tryz.results5 rfl (Xp _) ?_
    exact ⟨rfl, rfl⟩
  refine Ze rfl rfl (Zk rfl (Zx Tryz.underlying45 rfl XZ rfl (by exact ZH 0 (off := 0) (k := 4) rfl rfl) rfl) ?_)
  refine Ze rfl rfl (ZD rfl (vf := []) (vc := []) rfl rfl Tryz.call23 (fun w1 ho => Zje t hlt w1 (hT.at ho)) ?_)
  rintro _ _ ⟨fb, rfl, rfl⟩
  refine gr rfl (Zl rfl rfl) <| gA <| Za3 rfl (fun hc1 => ?_) (fun hc1 => ?_)
  · refine Zb <| Za <| Zs (ZD rfl (vf := []) (vc := []) rfl rfl Tryz.call10 (fun w1 ho => YO w1) ?_)
    rintro _ _ ⟨rfl, rfl⟩
    refine gas rfl rfl <| gA <| Zr <| Zh <| Z6 (.inl rfl) Tryz.results5 rfl (Xp _) ?_
    exact ⟨rfl, rfl⟩
  refine Zt <| Zg <| Zb <| Za <| Zs (ZD rfl (vf := []) (vc := []) rfl rfl Tryz.call11 (fun w1 ho => Zkc 4 (by decide) (by decide) w1) ?_)
  rintro _ _ ⟨q, rfl, hn, rfl⟩
  refine JJ [] q.hl [_, _] <| gm rfl rfl <| gr rfl (ZA rfl rfl) <| gr rfl (ZA rfl rfl) <| gas rfl rfl <| gas rfl rfl <| gA <| Zb <| Zb <| Za <| gm rfl rfl <| gr rfl (XC eg_33 Tryz.underlying33 rfl rfl) <| gA <| Zn rfl <| Zt <| Zg <| Zb <| Za <| gm rfl rfl <| gr rfl (Zx Tryz.underlying45 rfl XZ rfl (by exact ZH 1 (off := 0) (k := 4) rfl rfl) rfl) ?_
  refine Zs (Xb [_, _] q.hl rfl rfl (vf := []) (vc := []) rfl rfl Tryz.call12 rfl (fun w how hc => Zaa q hn (by decide) _ w hc s hle (OrgIn.out (A := [_, _]) hS how)) ?_)
  rintro _ _ (⟨hck, rfl, rfl⟩ | ⟨bp, c9, q2, V2, rfl, hp2, rfl⟩)
  · refine gm rfl rfl <| gr rfl (ZA rfl rfl) <| gr rfl (ZA rfl rfl) <| gas rfl rfl <| gas rfl rfl <| gA <| Zb <| Za <| gr rfl (Zx Tryz.underlying45 rfl XZ rfl (by exact ZH 1 (off := 0) (k := 4) rfl rfl) rfl) ?_
    refine Zs (ZD rfl (vf := []) (vc := []) rfl rfl Tryz.call22 (fun w1 ho => Zah s hle w1 (hS.at ho)) ?_)
    rintro _ _ ⟨rfl, rfl⟩
    refine gm rfl rfl <| gr rfl (ZA rfl rfl) <| gr rfl (ZA rfl rfl) <| Zs (ZR Yv rfl rfl (fun b9 => ?_))
    refine Zs (Zz 0 Yv rfl rfl rfl rfl rfl rfl (by rfl) ?_)
    refine gas rfl rfl <| gA <| Zb <| Za <| gm rfl rfl <| gr rfl (Zx Tryz.underlying45 rfl XZ rfl (by exact ZH 1 (off := 0) (k := 4) rfl rfl) rfl) ?_
    refine Zs (Xb [_, _, _] q.hl rfl rfl (vf := []) (vc := []) rfl rfl Tryz.call12 rfl (fun w how hc => Zaa q hn (by decide) _ w hc t hlt (OrgIn.out (A := [_, _, _]) hT how)) ?_)
    rintro v9 T9 hop
    obtain ⟨p9, rfl, hp9⟩ := Zns hop
    refine gm rfl rfl <| gr rfl (ZA rfl rfl) <| gr rfl (ZA rfl rfl) <| gas rfl rfl <| gas rfl rfl <| gA <| Zb <| Za <| gr rfl (Zx Tryz.underlying45 rfl XZ rfl (by exact ZH 1 (off := 0) (k := 4) rfl rfl) rfl) ?_
    refine Zs (ZD rfl (vf := []) (vc := []) rfl rfl Tryz.call22 (fun w1 ho => Zah t hlt w1 (hT.at ho)) ?_)
    rintro _ _ ⟨rfl, rfl⟩
    refine gm rfl rfl <| gr rfl (ZA rfl rfl) <| gr rfl (ZA rfl rfl) <| Zs (ZR Yv rfl rfl (fun b13 => ?_))
    refine Zs (Zz 0 Yv rfl rfl rfl rfl rfl rfl (by rfl) ?_)
    refine gas rfl rfl <| gA <| Zb <| Zb <| Za <| gm rfl rfl <| gm rfl rfl <| gr rfl (Z1 rfl rfl) (Zv (fun h52 => ?_) (fun h52 => ?_))
    · exact absurd rfl h52
    refine gm rfl rfl <| Ze rfl rfl <| Zk rfl (Zq rfl) <| Ze rfl rfl <| Zk rfl (Zc9 eg_36 Tryz.underlying36 rfl rfl) <| ZU (fun h55 => ?_) (fun h55 => ?_)
    · have hn9 : p9 ≠ none := by cases p9 <;> simp_all
      refine Ze rfl rfl <| Zk rfl (Zq rfl) <| Ze rfl rfl (Zk rfl (Z5 rfl rfl) (Zv (fun h57 => ?_) (fun h57 => ?_)))
      · refine Ze rfl rfl <| Zk rfl (Zde Tryz.runUnderlying4 rfl rfl) <| gr rfl (Zl rfl rfl) <| gA <| Zn rfl <| Zt <| Zg <| Zb <| Zb <| Za <| gm rfl rfl <| gr rfl (Z5 rfl rfl) (Zv (fun h61 => ?_) (fun h61 => ?_))
        · refine gm rfl rfl <| Ze rfl rfl <| Zk rfl (Zq rfl) <| Ze rfl rfl (Zk rfl (Z5 rfl rfl) (Zv (fun h64 => ?_) (fun h64 => ?_)))
          · exact absurd h64 hck
          refine gr rfl (Zo rfl rfl) <| gm rfl rfl <| Zf rfl rfl rfl <| Zf rfl rfl rfl <| Zf rfl rfl rfl <| Zf rfl rfl rfl <| Zf rfl rfl rfl <| Zf rfl rfl rfl <| Zf rfl rfl rfl <| Zf rfl rfl rfl <| ZE rfl rfl rfl <| ZE rfl rfl rfl <| ZE rfl rfl rfl <| ZE rfl rfl rfl <| ZE rfl rfl rfl <| ZE rfl rfl rfl <| ZE rfl rfl rfl <| Zf rfl rfl rfl <| Zf rfl rfl rfl <| ZE rfl rfl rfl <| ZE rfl rfl rfl <| ZE rfl rfl rfl <| ZE rfl rfl rfl <| ZE rfl rfl rfl <| ZE rfl rfl rfl ?_
          refine ZE rfl rfl rfl <| Zf rfl rfl rfl <| gr rfl (Zl rfl rfl) <| gA <| Zn rfl <| Zt <| Zg <| Zb <| Za <| gm rfl rfl <| gm rfl rfl <| gr rfl (Z5 rfl rfl) (Zv (fun h95 => ?_) (fun h95 => ?_))
          · refine gm rfl rfl <| Ze rfl rfl (ZD rfl (vf := []) (vc := []) rfl rfl Tryz.call10 (fun w1 ho => YO w1) ?_)
            rintro _ _ ⟨rfl, rfl⟩
            refine gr rfl (Zo rfl rfl) <| gas rfl rfl <| gA <| Zr <| Z6 (.inl rfl) Tryz.results5 rfl (Xp _) ?_
            exact ⟨rfl, rfl⟩
          exact absurd rfl h95
        refine gm rfl rfl <| Zf rfl rfl rfl <| Zf rfl rfl rfl <| gr rfl (Zl rfl rfl) <| gm rfl rfl <| Zf rfl rfl rfl <| Zf rfl rfl rfl <| Zf rfl rfl rfl <| Zf rfl rfl rfl <| Zf rfl rfl rfl <| Zf rfl rfl rfl <| Zf rfl rfl rfl <| Zf rfl rfl rfl <| ZE rfl rfl rfl <| ZE rfl rfl rfl <| ZE rfl rfl rfl <| ZE rfl rfl rfl <| ZE rfl rfl rfl <| ZE rfl rfl rfl <| ZE rfl rfl rfl <| Zf rfl rfl rfl <| Zf rfl rfl rfl <| ZE rfl rfl rfl <| ZE rfl rfl rfl <| ZE rfl rfl rfl ?_
        refine ZE rfl rfl rfl <| ZE rfl rfl rfl <| ZE rfl rfl rfl <| ZE rfl rfl rfl <| Zf rfl rfl rfl <| gr rfl (Zl rfl rfl) <| gA <| Zn rfl <| Zt <| Zg <| Zb <| Za <| gm rfl rfl <| gm rfl rfl <| gr rfl (Z5 rfl rfl) (Zv (fun h95 => ?_) (fun h95 => ?_))
        · refine gm rfl rfl <| Ze rfl rfl (ZD rfl (vf := []) (vc := []) rfl rfl Tryz.call10 (fun w1 ho => YO w1) ?_)
          rintro _ _ ⟨rfl, rfl⟩
          refine gr rfl (Zo rfl rfl) <| gas rfl rfl <| gA <| Zr <| Z6 (.inl rfl) Tryz.results5 rfl (Xp _) ?_
          exact ⟨rfl, rfl⟩
        exact absurd rfl h95
      exact absurd (hp9.2 h57) hn9
    have hn9 : p9 = none := by cases p9 <;> simp_all
    refine Ze rfl rfl <| Zk rfl (Zq rfl) <| Ze rfl rfl (Zk rfl (Z5 rfl rfl) (Zv (fun h57 => ?_) (fun h57 => ?_)))
    · exact absurd h57 (hp9.1 hn9)
    refine Ze rfl rfl <| Zk rfl (Zde Tryz.runUnderlying4 rfl rfl) <| gr rfl (Zl rfl rfl) <| gA <| Zn rfl <| Zt <| Zg <| Zb <| Zb <| Za <| gm rfl rfl <| gr rfl (Z5 rfl rfl) (Zv (fun h61 => ?_) (fun h61 => ?_))
    · refine gm rfl rfl <| Ze rfl rfl <| Zk rfl (Zq rfl) <| Ze rfl rfl (Zk rfl (Z5 rfl rfl) (Zv (fun h64 => ?_) (fun h64 => ?_)))
      · exact absurd h64 hck
      refine gr rfl (Zo rfl rfl) <| gm rfl rfl <| Zf rfl rfl rfl <| Zf rfl rfl rfl <| Zf rfl rfl rfl <| Zf rfl rfl rfl <| Zf rfl rfl rfl <| Zf rfl rfl rfl <| Zf rfl rfl rfl <| Zf rfl rfl rfl <| ZE rfl rfl rfl <| ZE rfl rfl rfl <| ZE rfl rfl rfl <| ZE rfl rfl rfl <| ZE rfl rfl rfl <| ZE rfl rfl rfl <| ZE rfl rfl rfl <| Zf rfl rfl rfl <| Zf rfl rfl rfl <| ZE rfl rfl rfl <| ZE rfl rfl rfl <| ZE rfl rfl rfl <| ZE rfl rfl rfl <| ZE rfl rfl rfl <| ZE rfl rfl rfl ?_
      refine ZE rfl rfl rfl <| Zf rfl rfl rfl <| gr rfl (Zl rfl rfl) <| gA <| Zn rfl <| Zt <| Zg <| Zb <| Za <| gm rfl rfl <| gm rfl rfl <| gr rfl (Z5 rfl rfl) (Zv (fun h95 => ?_) (fun h95 => ?_))
      · refine gm rfl rfl <| Ze rfl rfl (ZD rfl (vf := []) (vc := []) rfl rfl Tryz.call10 (fun w1 ho => YO w1) ?_)
        rintro _ _ ⟨rfl, rfl⟩
        refine gr rfl (Zo rfl rfl) <| gas rfl rfl <| gA <| Zr <| Z6 (.inl rfl) Tryz.results5 rfl (Xp _) ?_
        exact ⟨rfl, rfl⟩
      exact absurd rfl h95
    refine gm rfl rfl <| Zf rfl rfl rfl <| Zf rfl rfl rfl <| gr rfl (Zl rfl rfl) <| gm rfl rfl <| Zf rfl rfl rfl <| Zf rfl rfl rfl <| Zf rfl rfl rfl <| Zf rfl rfl rfl <| Zf rfl rfl rfl <| Zf rfl rfl rfl <| Zf rfl rfl rfl <| Zf rfl rfl rfl <| ZE rfl rfl rfl <| ZE rfl rfl rfl <| ZE rfl rfl rfl <| ZE rfl rfl rfl <| ZE rfl rfl rfl <| ZE rfl rfl rfl <| ZE rfl rfl rfl <| Zf rfl rfl rfl <| Zf rfl rfl rfl <| ZE rfl rfl rfl <| ZE rfl rfl rfl <| ZE rfl rfl rfl ?_
    refine ZE rfl rfl rfl <| ZE rfl rfl rfl <| ZE rfl rfl rfl <| ZE rfl rfl rfl <| Zf rfl rfl rfl <| gr rfl (Zl rfl rfl) <| gA <| Zn rfl <| Zt <| Zg <| Zb <| Za <| gm rfl rfl <| gm rfl rfl <| gr rfl (Z5 rfl rfl) (Zv (fun h95 => ?_) (fun h95 => ?_))
    · refine gm rfl rfl <| Ze rfl rfl (ZD rfl (vf := []) (vc := []) rfl rfl Tryz.call10 (fun w1 ho => YO w1) ?_)
      rintro _ _ ⟨rfl, rfl⟩
      refine gr rfl (Zo rfl rfl) <| gas rfl rfl <| gA <| Zr <| Z6 (.inl rfl) Tryz.results5 rfl (Xp _) ?_
      exact ⟨rfl, rfl⟩
    exact absurd rfl h95
  rw [← hp2.lk.bs]
  have hck := hp2.chk
  have hst2 := hp2.st
  refine gm rfl rfl <| gr rfl (ZA rfl rfl) <| gr rfl (ZA rfl rfl) <| gas rfl rfl <| gas rfl rfl <| gA <| Zb <| Za <| gr rfl (Zx Tryz.underlying45 rfl XZ rfl (by exact ZH 1 (off := 0) (k := 4) rfl rfl) rfl) ?_
  refine Zs (ZD rfl (vf := []) (vc := []) rfl rfl Tryz.call22 (fun w1 ho => Zah s hle w1 (hS.at ho)) ?_)
  rintro _ _ ⟨rfl, rfl⟩
  refine gm rfl rfl <| gr rfl (ZA rfl rfl) <| gr rfl (ZA rfl rfl) <| Zs (ZR Yv rfl rfl (fun b9 => ?_))
  refine Zs (Zz 0 Yv rfl rfl rfl rfl rfl rfl (by rfl) ?_)
  refine gas rfl rfl <| gA <| Zb <| Za <| gm rfl rfl <| gr rfl (Zx Tryz.underlying45 rfl XZ rfl (by exact ZH 1 (off := 0) (k := 4) rfl rfl) rfl) ?_
  refine Zs (Xb [_, _, _, _, _, _, _] q2.hl rfl rfl (vf := []) (vc := []) rfl rfl Tryz.call12 rfl (fun w how hc => Zka q2 V2 2 hst2.ok _ w hc t hlt (OrgIn.out (A := [_, _, _, _, _, _, _]) hT how) (by decide) hst2.noEmpty.1 (fun h => absurd h hst2.noEmpty.2) (hp2.left hn)) ?_)
  rintro v9 T9 hop
  obtain ⟨p9, e9, rfl, hp9, he9⟩ := Znt hst2 hop
  refine gm rfl rfl <| gr rfl (ZA rfl rfl) <| gr rfl (ZA rfl rfl) <| gas rfl rfl <| gas rfl rfl <| gA <| Zb <| Za <| gr rfl (Zx Tryz.underlying45 rfl XZ rfl (by exact ZH 1 (off := 0) (k := 4) rfl rfl) rfl) ?_
  refine Zs (ZD rfl (vf := []) (vc := []) rfl rfl Tryz.call22 (fun w1 ho => Zah t hlt w1 (hT.at ho)) ?_)
  rintro _ _ ⟨rfl, rfl⟩
  refine gm rfl rfl <| gr rfl (ZA rfl rfl) <| gr rfl (ZA rfl rfl) <| Zs (ZR Yv rfl rfl (fun b13 => ?_))
  refine Zs (Zz 0 Yv rfl rfl rfl rfl rfl rfl (by rfl) ?_)
  refine gas rfl rfl <| gA <| Zb <| Zb <| Za <| gm rfl rfl <| gm rfl rfl <| gr rfl (Z1 rfl rfl) (Zv (fun h52 => ?_) (fun h52 => ?_))
  · exact absurd hck.symm h52
  refine gm rfl rfl <| Ze rfl rfl <| Zk rfl (Zq rfl) <| Ze rfl rfl <| Zk rfl (Zc9 eg_36 Tryz.underlying36 rfl rfl) <| ZU (fun h55 => ?_) (fun h55 => ?_)
  · have hn9 : p9 ≠ none := by cases p9 <;> simp_all
    refine Ze rfl rfl <| Zk rfl (Zq rfl) <| Ze rfl rfl (Zk rfl (Z5 rfl rfl) (Zv (fun h57 => ?_) (fun h57 => ?_)))
    · refine Ze rfl rfl <| Zk rfl (Zde Tryz.runUnderlying4 rfl rfl) <| gr rfl (Zl rfl rfl) <| gA <| Zn rfl <| Zt <| Zg <| Zb <| Zb <| Za <| gm rfl rfl <| gr rfl (Z5 rfl rfl) (Zv (fun h61 => ?_) (fun h61 => ?_))
      · refine gm rfl rfl <| Ze rfl rfl <| Zk rfl (Zq rfl) <| Ze rfl rfl (Zk rfl (Z5 rfl rfl) (Zv (fun h64 => ?_) (fun h64 => ?_)))
        · refine gr rfl (Zo rfl rfl) <| gm rfl rfl <| Ze rfl rfl <| Zk rfl (Zc rfl (YK _)) <| Ze rfl rfl (Zk rfl (Zi Tryz.underlying40 rfl rfl (by exact Zp 3 rfl rfl)) ?_)
          refine Ze rfl rfl <| Zk rfl (ZB Tryz.underlying40 rfl) <| Ze rfl rfl <| Zk rfl (Zc rfl (YK _)) <| Ze rfl rfl (Zk rfl (Zi Tryz.underlying40 rfl rfl (by exact Zp 2 rfl rfl)) ?_)
          refine Ze rfl rfl <| Zk rfl (ZB Tryz.underlying40 rfl) <| Ze rfl rfl (Zk rfl (Z1 rfl rfl) (Zv (fun h73 => ?_) (fun h73 => ?_)))
          · refine Ze rfl rfl <| Zk rfl (Zq rfl) <| Zf rfl rfl rfl <| Zf rfl rfl rfl <| Zf rfl rfl rfl <| Zf rfl rfl rfl <| Zf rfl rfl rfl <| Zf rfl rfl rfl <| Zf rfl rfl rfl <| Ze rfl rfl <| Zk rfl (Zo rfl rfl) <| Ze rfl rfl <| Zk rfl (Zq rfl) <| Zf rfl rfl rfl <| Zf rfl rfl rfl <| Zf rfl rfl rfl <| Zf rfl rfl rfl <| Zf rfl rfl rfl <| Zf rfl rfl rfl <| Zf rfl rfl rfl <| Ze rfl rfl <| Zk rfl (Zo rfl rfl) <| gr rfl (Zo rfl rfl) <| gA <| Zm rfl <| Za <| gas rfl rfl <| ZN ?_
            refine Zg <| Zb <| Za <| gm rfl rfl <| gm rfl rfl <| gr rfl (Z5 rfl rfl) (Zv (fun h95 => ?_) (fun h95 => ?_))
            · refine gm rfl rfl <| Ze rfl rfl (ZD rfl (vf := []) (vc := []) rfl rfl Tryz.call10 (fun w1 ho => YO w1) ?_)
              rintro _ _ ⟨rfl, rfl⟩
              refine gr rfl (Zo rfl rfl) <| gas rfl rfl <| gA <| Zr <| Z6 (.inl rfl) Tryz.results5 rfl (Xp _) ?_
              exact ⟨rfl, rfl⟩
            exfalso; apply h95; rw [he9, if_neg (by omega), if_neg (fun e => by simp at e; omega)]
          refine Ze rfl rfl <| Zk rfl (Zq rfl) <| Ze rfl rfl <| Zk rfl (Zc rfl (YS _)) <| Ze rfl rfl (Zk rfl (Zi Tryz.underlying42 rfl rfl (by exact Zp 3 rfl rfl)) ?_)
          refine Ze rfl rfl <| Zk rfl (ZB Tryz.underlying42 rfl) <| Ze rfl rfl <| Zk rfl (Zc rfl (YS _)) <| Ze rfl rfl (Zk rfl (Zi Tryz.underlying42 rfl rfl (by exact Zp 2 rfl rfl)) ?_)
          refine Ze rfl rfl <| Zk rfl (ZB Tryz.underlying42 rfl) <| Ze rfl rfl (Zk rfl (Z1 rfl rfl) (Zv (fun h81 => ?_) (fun h81 => ?_)))
          · refine Ze rfl rfl <| Zk rfl (Zl rfl rfl) <| Ze rfl rfl <| Zk rfl (Zq rfl) <| Zf rfl rfl rfl <| Zf rfl rfl rfl <| Zf rfl rfl rfl <| Zf rfl rfl rfl <| Zf rfl rfl rfl <| Zf rfl rfl rfl <| Zf rfl rfl rfl <| Ze rfl rfl <| Zk rfl (Zo rfl rfl) <| gr rfl (Zo rfl rfl) <| gA <| Zm rfl <| Za <| gas rfl rfl <| gA <| Zb <| Za <| gm rfl rfl <| gm rfl rfl <| gr rfl (Z5 rfl rfl) (Zv (fun h95 => ?_) (fun h95 => ?_))
            · refine gm rfl rfl <| Ze rfl rfl (ZD rfl (vf := []) (vc := []) rfl rfl Tryz.call10 (fun w1 ho => YO w1) ?_)
              rintro _ _ ⟨rfl, rfl⟩
              refine gr rfl (Zo rfl rfl) <| gas rfl rfl <| gA <| Zr <| Z6 (.inl rfl) Tryz.results5 rfl (Xp _) ?_
              exact ⟨rfl, rfl⟩
            exfalso; apply h95; rw [he9, if_neg (by omega), if_neg (fun e => by simp at e; omega)]
          refine Ze rfl rfl <| Zk rfl (Zl rfl rfl) <| Ze rfl rfl <| Zk rfl (Zq rfl) <| Ze rfl rfl <| Zk rfl (Zc rfl (Xk _)) <| Ze rfl rfl (Zk rfl (Zi Tryz.underlying43 rfl rfl (by exact Zp 3 rfl rfl)) ?_)
          refine Ze rfl rfl <| Zk rfl (ZB Tryz.underlying43 rfl) <| Ze rfl rfl <| Zk rfl (Zc rfl (Xk _)) <| Ze rfl rfl (Zk rfl (Zi Tryz.underlying43 rfl rfl (by exact Zp 2 rfl rfl)) ?_)
          refine Ze rfl rfl <| Zk rfl (ZB Tryz.underlying43 rfl) <| Ze rfl rfl (Zk rfl (Z1 rfl rfl) (Zv (fun h90 => ?_) (fun h90 => ?_)))
          · refine Ze rfl rfl <| Zk rfl (Zl rfl rfl) <| gr rfl (Zo rfl rfl) <| gA <| Zm rfl <| Za <| gas rfl rfl <| gA <| Zb <| Za <| gm rfl rfl <| gm rfl rfl <| gr rfl (Z5 rfl rfl) (Zv (fun h95 => ?_) (fun h95 => ?_))
            · refine gm rfl rfl <| Ze rfl rfl (ZD rfl (vf := []) (vc := []) rfl rfl Tryz.call10 (fun w1 ho => YO w1) ?_)
              rintro _ _ ⟨rfl, rfl⟩
              refine gr rfl (Zo rfl rfl) <| gas rfl rfl <| gA <| Zr <| Z6 (.inl rfl) Tryz.results5 rfl (Xp _) ?_
              exact ⟨rfl, rfl⟩
            exfalso; apply h95; rw [he9, if_neg (by omega), if_neg (fun e => by simp at e; omega)]
          refine Ze rfl rfl <| Zk rfl (Zl rfl rfl) <| gr rfl (Zo rfl rfl) <| gA <| Zn rfl <| Zt <| Zg <| Zb <| Za <| gm rfl rfl <| gm rfl rfl <| gr rfl (Z5 rfl rfl) (Zv (fun h95 => ?_) (fun h95 => ?_))
          · refine gm rfl rfl <| Ze rfl rfl (ZD rfl (vf := []) (vc := []) rfl rfl Tryz.call10 (fun w1 ho => YO w1) ?_)
            rintro _ _ ⟨rfl, rfl⟩
            refine gr rfl (Zo rfl rfl) <| gas rfl rfl <| gA <| Zr <| Z6 (.inl rfl) Tryz.results5 rfl (Xp _) ?_
            exact ⟨rfl, rfl⟩
          exfalso; apply h95; rw [he9, if_neg (by omega), if_pos (by show [_, _, _] = [_, _, _]; rw [show s.ds.length = t.ds.length by omega, show s.ss.length = t.ss.length by omega, show s.cs.length = t.cs.length by omega]), h61]
        exact absurd rfl h64
      refine gm rfl rfl <| Zf rfl rfl rfl <| Zf rfl rfl rfl <| gr rfl (Zl rfl rfl) <| gm rfl rfl <| Zf rfl rfl rfl <| Zf rfl rfl rfl <| Zf rfl rfl rfl <| Zf rfl rfl rfl <| Zf rfl rfl rfl <| Zf rfl rfl rfl <| Zf rfl rfl rfl <| Zf rfl rfl rfl <| ZE rfl rfl rfl <| ZE rfl rfl rfl <| ZE rfl rfl rfl <| ZE rfl rfl rfl <| ZE rfl rfl rfl <| ZE rfl rfl rfl <| ZE rfl rfl rfl <| Zf rfl rfl rfl <| Zf rfl rfl rfl <| ZE rfl rfl rfl <| ZE rfl rfl rfl <| ZE rfl rfl rfl ?_
      refine ZE rfl rfl rfl <| ZE rfl rfl rfl <| ZE rfl rfl rfl <| ZE rfl rfl rfl <| Zf rfl rfl rfl <| gr rfl (Zl rfl rfl) <| gA <| Zn rfl <| Zt <| Zg <| Zb <| Za <| gm rfl rfl <| gm rfl rfl <| gr rfl (Z5 rfl rfl) (Zv (fun h95 => ?_) (fun h95 => ?_))
      · refine gm rfl rfl <| Ze rfl rfl (ZD rfl (vf := []) (vc := []) rfl rfl Tryz.call10 (fun w1 ho => YO w1) ?_)
        rintro _ _ ⟨rfl, rfl⟩
        refine gr rfl (Zo rfl rfl) <| gas rfl rfl <| gA <| Zr <| Z6 (.inl rfl) Tryz.results5 rfl (Xp _) ?_
        exact ⟨rfl, rfl⟩
      exfalso; apply h95; rw [he9, if_pos h61]
    exact absurd (hp9.2 h57) hn9
  have hn9 : p9 = none := by cases p9 <;> simp_all
  refine Ze rfl rfl <| Zk rfl (Zq rfl) <| Ze rfl rfl (Zk rfl (Z5 rfl rfl) (Zv (fun h57 => ?_) (fun h57 => ?_)))
  · exact absurd h57 (hp9.1 hn9)
  refine Ze rfl rfl <| Zk rfl (Zde Tryz.runUnderlying4 rfl rfl) <| gr rfl (Zl rfl rfl) <| gA <| Zn rfl <| Zt <| Zg <| Zb <| Zb <| Za <| gm rfl rfl <| gr rfl (Z5 rfl rfl) (Zv (fun h61 => ?_) (fun h61 => ?_))
  · refine gm rfl rfl <| Ze rfl rfl <| Zk rfl (Zq rfl) <| Ze rfl rfl (Zk rfl (Z5 rfl rfl) (Zv (fun h64 => ?_) (fun h64 => ?_)))
    · refine gr rfl (Zo rfl rfl) <| gm rfl rfl <| Ze rfl rfl <| Zk rfl (Zc rfl (YK _)) <| Ze rfl rfl (Zk rfl (Zi Tryz.underlying40 rfl rfl (by exact Zp 3 rfl rfl)) ?_)
      refine Ze rfl rfl <| Zk rfl (ZB Tryz.underlying40 rfl) <| Ze rfl rfl <| Zk rfl (Zc rfl (YK _)) <| Ze rfl rfl (Zk rfl (Zi Tryz.underlying40 rfl rfl (by exact Zp 2 rfl rfl)) ?_)
      refine Ze rfl rfl <| Zk rfl (ZB Tryz.underlying40 rfl) <| Ze rfl rfl (Zk rfl (Z1 rfl rfl) (Zv (fun h73 => ?_) (fun h73 => ?_)))
      · refine Ze rfl rfl <| Zk rfl (Zq rfl) <| Zf rfl rfl rfl <| Zf rfl rfl rfl <| Zf rfl rfl rfl <| Zf rfl rfl rfl <| Zf rfl rfl rfl <| Zf rfl rfl rfl <| Zf rfl rfl rfl <| Ze rfl rfl <| Zk rfl (Zo rfl rfl) <| Ze rfl rfl <| Zk rfl (Zq rfl) <| Zf rfl rfl rfl <| Zf rfl rfl rfl <| Zf rfl rfl rfl <| Zf rfl rfl rfl <| Zf rfl rfl rfl <| Zf rfl rfl rfl <| Zf rfl rfl rfl <| Ze rfl rfl <| Zk rfl (Zo rfl rfl) <| gr rfl (Zo rfl rfl) <| gA <| Zm rfl <| Za <| gas rfl rfl <| ZN ?_
        refine Zg <| Zb <| Za <| gm rfl rfl <| gm rfl rfl <| gr rfl (Z5 rfl rfl) (Zv (fun h95 => ?_) (fun h95 => ?_))
        · refine gm rfl rfl <| Ze rfl rfl (ZD rfl (vf := []) (vc := []) rfl rfl Tryz.call10 (fun w1 ho => YO w1) ?_)
          rintro _ _ ⟨rfl, rfl⟩
          refine gr rfl (Zo rfl rfl) <| gas rfl rfl <| gA <| Zr <| Z6 (.inl rfl) Tryz.results5 rfl (Xp _) ?_
          exact ⟨rfl, rfl⟩
        exfalso; apply h95; rw [he9, if_neg (by omega), if_neg (fun e => by simp at e; omega)]
      refine Ze rfl rfl <| Zk rfl (Zq rfl) <| Ze rfl rfl <| Zk rfl (Zc rfl (YS _)) <| Ze rfl rfl (Zk rfl (Zi Tryz.underlying42 rfl rfl (by exact Zp 3 rfl rfl)) ?_)
      refine Ze rfl rfl <| Zk rfl (ZB Tryz.underlying42 rfl) <| Ze rfl rfl <| Zk rfl (Zc rfl (YS _)) <| Ze rfl rfl (Zk rfl (Zi Tryz.underlying42 rfl rfl (by exact Zp 2 rfl rfl)) ?_)
      refine Ze rfl rfl <| Zk rfl (ZB Tryz.underlying42 rfl) <| Ze rfl rfl (Zk rfl (Z1 rfl rfl) (Zv (fun h81 => ?_) (fun h81 => ?_)))
      · refine Ze rfl rfl <| Zk rfl (Zl rfl rfl) <| Ze rfl rfl <| Zk rfl (Zq rfl) <| Zf rfl rfl rfl <| Zf rfl rfl rfl <| Zf rfl rfl rfl <| Zf rfl rfl rfl <| Zf rfl rfl rfl <| Zf rfl rfl rfl <| Zf rfl rfl rfl <| Ze rfl rfl <| Zk rfl (Zo rfl rfl) <| gr rfl (Zo rfl rfl) <| gA <| Zm rfl <| Za <| gas rfl rfl <| gA <| Zb <| Za <| gm rfl rfl <| gm rfl rfl <| gr rfl (Z5 rfl rfl) (Zv (fun h95 => ?_) (fun h95 => ?_))
        · refine gm rfl rfl <| Ze rfl rfl (ZD rfl (vf := []) (vc := []) rfl rfl Tryz.call10 (fun w1 ho => YO w1) ?_)
          rintro _ _ ⟨rfl, rfl⟩
          refine gr rfl (Zo rfl rfl) <| gas rfl rfl <| gA <| Zr <| Z6 (.inl rfl) Tryz.results5 rfl (Xp _) ?_
          exact ⟨rfl, rfl⟩
        exfalso; apply h95; rw [he9, if_neg (by omega), if_neg (fun e => by simp at e; omega)]
      refine Ze rfl rfl <| Zk rfl (Zl rfl rfl) <| Ze rfl rfl <| Zk rfl (Zq rfl) <| Ze rfl rfl <| Zk rfl (Zc rfl (Xk _)) <| Ze rfl rfl (Zk rfl (Zi Tryz.underlying43 rfl rfl (by exact Zp 3 rfl rfl)) ?_)
      refine Ze rfl rfl <| Zk rfl (ZB Tryz.underlying43 rfl) <| Ze rfl rfl <| Zk rfl (Zc rfl (Xk _)) <| Ze rfl rfl (Zk rfl (Zi Tryz.underlying43 rfl rfl (by exact Zp 2 rfl rfl)) ?_)
      refine Ze rfl rfl <| Zk rfl (ZB Tryz.underlying43 rfl) <| Ze rfl rfl (Zk rfl (Z1 rfl rfl) (Zv (fun h90 => ?_) (fun h90 => ?_)))
      · refine Ze rfl rfl <| Zk rfl (Zl rfl rfl) <| gr rfl (Zo rfl rfl) <| gA <| Zm rfl <| Za <| gas rfl rfl <| gA <| Zb <| Za <| gm rfl rfl <| gm rfl rfl <| gr rfl (Z5 rfl rfl) (Zv (fun h95 => ?_) (fun h95 => ?_))
        · refine gm rfl rfl <| Ze rfl rfl (ZD rfl (vf := []) (vc := []) rfl rfl Tryz.call10 (fun w1 ho => YO w1) ?_)
          rintro _ _ ⟨rfl, rfl⟩
          refine gr rfl (Zo rfl rfl) <| gas rfl rfl <| gA <| Zr <| Z6 (.inl rfl) Tryz.results5 rfl (Xp _) ?_
          exact ⟨rfl, rfl⟩
        exfalso; apply h95; rw [he9, if_neg (by omega), if_neg (fun e => by simp at e; omega)]
      refine Ze rfl rfl <| Zk rfl (Zl rfl rfl) <| gr rfl (Zo rfl rfl) <| gA <| Zn rfl <| Zt <| Zg <| Zb <| Za <| gm rfl rfl <| gm rfl rfl <| gr rfl (Z5 rfl rfl) (Zv (fun h95 => ?_) (fun h95 => ?_))
      · refine gm rfl rfl <| Ze rfl rfl (ZD rfl (vf := []) (vc := []) rfl rfl Tryz.call10 (fun w1 ho => YO w1) ?_)
        rintro _ _ ⟨rfl, rfl⟩
        refine gr rfl (Zo rfl rfl) <| gas rfl rfl <| gA <| Zr <| Z6 (.inl rfl) Tryz.results5 rfl (Xp _) ?_
        exact ⟨rfl, rfl⟩
      exfalso; apply h95; rw [he9, if_neg (by omega), if_pos (by show [_, _, _] = [_, _, _]; rw [show s.ds.length = t.ds.length by omega, show s.ss.length = t.ss.length by omega, show s.cs.length = t.cs.length by omega]), h61]
    exact absurd rfl h64
  refine gm rfl rfl <| Zf rfl rfl rfl <| Zf rfl rfl rfl <| gr rfl (Zl rfl rfl) <| gm rfl rfl <| Zf rfl rfl rfl <| Zf rfl rfl rfl <| Zf rfl rfl rfl <| Zf rfl rfl rfl <| Zf rfl rfl rfl <| Zf rfl rfl rfl <| Zf rfl rfl rfl <| Zf rfl rfl rfl <| ZE rfl rfl rfl <| ZE rfl rfl rfl <| ZE rfl rfl rfl <| ZE rfl rfl rfl <| ZE rfl rfl rfl <| ZE rfl rfl rfl <| ZE rfl rfl rfl <| Zf rfl rfl rfl <| Zf rfl rfl rfl <| ZE rfl rfl rfl <| ZE rfl rfl rfl <| ZE rfl rfl rfl ?_
  refine ZE rfl rfl rfl <| ZE rfl rfl rfl <| ZE rfl rfl rfl <| ZE rfl rfl rfl <| Zf rfl rfl rfl <| gr rfl (Zl rfl rfl) <| gA <| Zn rfl <| Zt <| Zg <| Zb <| Za <| gm rfl rfl <| gm rfl rfl <| gr rfl (Z5 rfl rfl) (Zv (fun h95 => ?_) (fun h95 => ?_))
  · refine gm rfl rfl <| Ze rfl rfl (ZD rfl (vf := []) (vc := []) rfl rfl Tryz.call10 (fun w1 ho => YO w1) ?_)
    rintro _ _ ⟨rfl, rfl⟩
    refine gr rfl (Zo rfl rfl) <| gas rfl rfl <| gA <| Zr <| Z6 (.inl rfl) Tryz.results5 rfl (Xp _) ?_
    exact ⟨rfl, rfl⟩
  exfalso; apply h95; rw [he9, if_pos h61]
end Go.Proofs.YthcbcdjkfefnlaaGreatDoor
