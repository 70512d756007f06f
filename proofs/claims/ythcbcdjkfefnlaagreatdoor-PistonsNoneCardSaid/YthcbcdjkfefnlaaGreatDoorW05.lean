import Derived.Test.YthcbcdjkfefnlaaGreatDoorW04
import Derived.Test.YthcbcdjkfefnlaaGreatDoorW00
/- A part of the proof: walks of the program. -/
set_option autoImplicit false
set_option linter.unusedSimpArgs false
set_option linter.unusedVariables false
set_option linter.unnecessarySimpa false
set_option maxRecDepth 100000
set_option maxHeartbeats 8000000
namespace Go.Proofs.YthcbcdjkfefnlaaGreatDoor
open Go.Gv
open Go.RowKit
open Go.Sn hiding En keysP keysP_len stop_ok
open Go.Ps
open Iv Sx Ip
theorem Zmt (a : Ac) (hle : AcLe a) (w0 : World) (hin : AcIn a w0 []) : Sp Tryz.prog 3 [a.val] w0 [] (RV (.bool true)) := by
  refine ZB Tryz.func3 rfl Tryz.ntmps3 rfl (Own.refl _) ?_
  simp only [ZU]
  refine Zc <| Za <| Zn (Z7 rfl rfl rfl (fun b1 => ?_))
  refine gas rfl rfl <| gA <| Zc <| Zc <| Za <| gr rfl (Zr Tryz.underlying28 rfl ty_28 rfl (by exact ZH 0 (off := 0) (k := 8) rfl rfl) rfl) ?_
  refine Zn (ZX (sz := 8) rfl rfl (fun _ => Zn1 _ _ _ _ _ _ _ _ _ _ _ _) rfl rfl (fun b23 => ?_))
  refine Zn (ZD rfl (vf := []) (vc := []) rfl rfl Tryz.call9 (fun w1 ho => great_ok (some ⟨b23, 0, none⟩) 1 [a] 1 (by decide) (show (1 : Nat) ≤ 140737488355328 by decide) w1 ⟨ho.rowSl 0 rfl, fun y hy => by rw [List.mem_singleton.1 hy]; exact hin.at ho⟩) ?_)
  rintro _ _ ⟨gb, rfl, rfl, -⟩
  refine gA <| gc_cond rfl (fun hc1 => ?_) (fun hc1 => ?_)
  · refine Zc <| Za <| Zn (ZD rfl (vf := []) (vc := []) rfl rfl Tryz.call10 (fun w1 ho => Zho w1) ?_)
    rintro _ _ ⟨rfl, rfl⟩
    refine gas rfl rfl <| gA <| Zt <| Zg <| Z0 (.inl rfl) Tryz.results3 rfl (Zi4 _) ?_
    exact ⟨rfl, rfl⟩
  refine Zx <| Zf <| Zc <| Za <| Zn (ZD rfl (vf := []) (vc := []) rfl rfl Tryz.call11 (fun w1 ho => Zli 4 (by decide) (by decide) w1) ?_)
  rintro _ _ ⟨q, rfl, hn, rfl⟩
  refine V9 [] q.hl [_, _] <| gm rfl rfl <| gr rfl (Zp rfl rfl) <| gr rfl (Zp rfl rfl) <| gas rfl rfl <| gas rfl rfl <| gA <| Zc <| Za <| gm rfl rfl <| Zn (ZD rfl (vf := []) (vc := []) rfl rfl Tryz.call13 (fun w1 ho => Zdi w1) ?_)
  rintro _ _ ⟨xe, xd, xr, x1, x2, x3, xt, xc, rfl, rfl⟩
  refine Zn (Z6 [_, _, _, _, _, _, _, _, _, _] q.hl rfl rfl (vf := []) (vc := []) rfl rfl Tryz.call12 rfl (fun w how hc => Zc8 q hn (by decide) _ w hc (WG xd xr x1 x2 x3 xt xc) Zdv (Zdw (how.rowSlT (A := [_, _, _, _, _, _, _, _, _, _]) 7 rfl) (how.rowSlT (A := [_, _, _, _, _, _, _, _, _, _]) 6 rfl) (how.rowSlT (A := [_, _, _, _, _, _, _, _, _, _]) 2 rfl) (how.rowSlT (A := [_, _, _, _, _, _, _, _, _, _]) 1 rfl) (how.rowSlT (A := [_, _, _, _, _, _, _, _, _, _]) 5 rfl) (how.rowSlT (A := [_, _, _, _, _, _, _, _, _, _]) 4 rfl) (how.rowSlT (A := [_, _, _, _, _, _, _, _, _, _]) 3 rfl))) ?_)
  rintro _ _ (⟨hck, _⟩ | ⟨bp, c9, q2, V2, rfl, hp2, rfl⟩)
  · exact absurd Zb0 hck
  rw [← hp2.lk.bs, ← hp2.lk.bf]
  have hst2 := hp2.st
  have hlf2 := hp2.left hn
  have hcap2 : q2.cap = 20 := hp2.cap hn
  refine gm rfl rfl <| gr rfl (Zp rfl rfl) <| gr rfl (Zp rfl rfl) <| gas rfl rfl <| gas rfl rfl <| gA <| Zc <| Za <| Zn (ZD rfl (vf := []) (vc := []) rfl rfl Tryz.call13 (fun w1 ho => Zdi w1) ?_)
  rintro _ _ ⟨ye, yd, yr, y1, y2, y3, yt, yc, rfl, rfl⟩
  refine Zn (ZD rfl (vf := []) (vc := []) rfl rfl Tryz.call12 (fun w1 ho => Zo1 (WG yd yr y1 y2 y3 yt yc) Zdv Zb0 w1 (Zdw (ho.rowSl 7 rfl) (ho.rowSl 6 rfl) (ho.rowSl 2 rfl) (ho.rowSl 1 rfl) (ho.rowSl 5 rfl) (ho.rowSl 4 rfl) (ho.rowSl 3 rfl))) ?_)
  rintro _ _ ⟨rfl, rfl⟩
  refine gm rfl rfl <| gr rfl (Zp rfl rfl) <| gr rfl (Zp rfl rfl) <| gas rfl rfl <| gas rfl rfl <| gA <| Zc <| Zc <| Za <| gm rfl rfl <| gr rfl (ZP rfl rfl) (Zv (fun h42 => ?_) (fun h42 => ?_))
  · exact absurd rfl h42
  refine gm rfl rfl <| Zl rfl rfl <| Zs rfl (Zi rfl) <| Zl rfl rfl (Zs rfl (ZP rfl rfl) (Zv (fun h45 => ?_) (fun h45 => ?_)))
  · exact absurd rfl h45
  refine gr rfl (Zo rfl rfl) <| gm rfl rfl <| Zl rfl rfl <| Zs rfl (Zi rfl) <| Zl rfl rfl (Z6 [_, _, _, _, _, _, _, _, _, _, _, _, _, _, _, _, _, _, _, _, _, _] q2.hl rfl rfl (vf := []) (vc := []) rfl rfl Tryz.call14 rfl (fun w how hc => q_fuse q2 hst2.ok.st.ok _ w hc 0 [] none 0 (by decide) (XN _ _ _) (by decide)) ?_)
  rintro _ _ ⟨rp9, cp9, rfl, rfl⟩
  obtain ⟨f1, f2, f3, f4, f5⟩ := Zo0 hst2.ok (by decide) rp9 cp9
  rw [f1]
  refine Zl rfl rfl (Zs rfl (ZP rfl rfl) (Zv (fun h50 => ?_) (fun h50 => ?_)))
  · exact absurd rfl h50
  refine gr rfl (Zo rfl rfl) <| gm rfl rfl <| Zl rfl rfl <| Zs rfl (Zi rfl) <| Zl rfl rfl (Z6 [_, _, _, _, _, _, _, _, _, _, _, _, _, _, _, _, _, _, _, _, _, _] (q2.withF (YC q2.f 0 []).1 rp9 cp9).hl rfl rfl (vf := []) (vc := []) rfl rfl Tryz.call15 rfl (fun w how hc => q_prog (q2.withF (YC q2.f 0 []).1 rp9 cp9) f2 _ w hc 0 0 (by decide)) ?_)
  rintro _ _ ⟨rfl, rfl⟩
  obtain ⟨qs, hQs⟩ : ∃ qs : SS, (q2.withF (YC q2.f 0 []).1 rp9 cp9).withF (Yh (q2.withF (YC q2.f 0 []).1 rp9 cp9).f 0 0).1 rp9 cp9 = qs := ⟨_, rfl⟩
  change GK _ _ _ ((54, .int .i64 (Yh (YC q2.f 0 []).1 0 0).2) :: _) _ _ _
  rw [f3]
  have hs : qs.Stop := by rw [← hQs]; exact f4
  have h9 : qs.err = 9 := by rw [← hQs]; exact f5
  have hbs : qs.bs = q2.bs := by rw [← hQs]
  rw [show ((q2.withF (YC q2.f 0 []).1 rp9 cp9).withF (Yh (q2.withF (YC q2.f 0 []).1 rp9 cp9).f 0 0).1 (q2.withF (YC q2.f 0 []).1 rp9 cp9).rp (q2.withF (YC q2.f 0 []).1 rp9 cp9).cp) = qs from hQs, ← hbs]
  refine Zl rfl rfl (Zs rfl (ZP rfl rfl) (Zv (fun h55 => ?_) (fun h55 => ?_)))
  · exact absurd rfl h55
  refine gr rfl (Zo rfl rfl) <| gA <| Zk rfl <| Zx <| Zf <| Zc <| Za <| gr rfl (ZQ rfl (fun _ => bd_52_)) ?_
  refine Zn (Z7 rfl rfl rfl (fun b58 => ?_))
  refine gm rfl rfl <| gr rfl (ZQ rfl (fun _ => Zj3 _ _ _)) ?_
  refine Zn (ZO ty_53 rfl rfl (fun b9 => ?_))
  refine Zn (ZA 0 ty_53 rfl rfl rfl rfl rfl rfl (by rfl) ?_)
  refine gA <| Zc <| Za <| gr rfl (ZQ rfl (fun _ => Vp _ _ _)) ?_
  refine Zn (ZO YB rfl rfl (fun b10 => ?_))
  refine Zn (ZA 0 YB rfl rfl rfl rfl rfl rfl (by rfl) ?_)
  refine gA <| Zc <| Za <| gr rfl (ZQ rfl (fun _ => Zep)) ?_
  refine Zn (ZO ZZ rfl rfl (fun b11 => ?_))
  refine Zn (ZA 0 ZZ rfl rfl rfl rfl rfl rfl (by rfl) ?_)
  refine gA <| Zc <| Zc <| Za <| gas rfl rfl <| gA <| ZI <| Z3 (ι := Nat) [(1, _), (4, _), (9, _), (10, _), (11, _)] (_ :: _ :: _ :: _ :: _ :: _ :: _ :: _ :: _ :: _ :: _ :: _ :: _ :: _ :: _ :: _ :: _ :: _ :: _ :: _ :: _ :: _ :: _ :: _ :: _ :: _ :: qs.hl) (fun k => k ≤ 3) (fun k Fr0 => ((12, natV k) :: Fr0)) (fun k Fr0 => Fr0) (fun k => 3 - k) 0 (by omega) ⟨rfl, rfl, rfl, rfl, rfl, rfl, trivial⟩ (Zz 0 rfl) ?_
  rintro k hk
  refine Zc <| Zc <| Za <| gm rfl rfl <| gr rfl (Z5 rfl rfl) (Zv (fun h64 => ?_) (fun h64 => ?_))
  · refine gA <| Zj rfl <| Zx <| Zf <| Zc <| ZI <| Zc ?_
    rcases (show k = 0 ∨ k = 1 ∨ k = 2 by omega) with rfl | rfl | rfl
    · refine Za <| gas rfl rfl <| gA <| Zc <| Zc <| Za <| gm rfl rfl <| gr rfl (Yr rfl rfl) (Zv (fun h68 => ?_) (fun h68 => ?_))
      · exact absurd h68 (by decide)
      refine gA <| Zk rfl <| Zx <| Zf <| Zc <| YI [_, _, _, _, _, _, _, _, _, _, _, _, _, _, _, _, _, _, _, _, _, _, _, _, _, _] qs.hl [0, 1, 2, 3, 4, 5, 6, 7, 8, 9, 10, 11, 12, 13, 14, 15, 16, 17, 18, 19, 20, 21, 22, 23, 24, 25] false 11 rfl rfl <| Zb 0 rfl rfl (Zz 0 rfl) (Ze (Zi rfl)) ?_
      refine Zb 1 rfl rfl (Zz 0 rfl) (Ze (Z2 Tryz.underlying53 YY rfl rfl (by omega) (by omega))) ?_
      refine Zb 2 rfl rfl (Zz 0 rfl) (Ze (Zh Tryz.underlying36 rfl rfl (by exact Zq 2 rfl rfl))) ?_
      refine Zb 3 rfl rfl (Zz 0 rfl) (Ze (Zr Tryz.underlying23 rfl YB rfl (by exact ZH 1 (off := 0) (k := 3) rfl rfl) rfl)) ?_
      refine Zb 4 rfl rfl (Zz 0 rfl) (Ze (Zr Tryz.underlying26 rfl ZZ rfl (by exact ZH 0 (off := 0) (k := 2) rfl rfl) rfl)) ?_
      refine Jy 5 9 (Gv.bm 12 63) (Gv.bm 12 543) rfl rfl rfl rfl (by kernel_rfl) (by kernel_rfl) (by kernel_rfl) (.inr (Zz 0 rfl)) ?_ ?_
      · refine (ZD rfl (vf := []) (vc := []) rfl rfl Tryz.call16 (fun w1 ho => Zb2 _ w1 (.inl rfl) ⟨1, -1, 1⟩ none none 0 0 0 0) ?_)
        rintro _ _ ⟨rfl, rfl⟩
        refine Zb 6 rfl rfl (Zz 0 rfl) (Ze (Zi rfl)) ?_
        refine Zb 7 rfl rfl (Zz 0 rfl) (Ze (Zp rfl rfl)) ?_
        refine Zb 8 rfl rfl (Zz 0 rfl) (Ze (Zp rfl rfl)) ?_
        refine ZF 9 rfl (.inr (Zz 0 rfl)) (ZO ZZ rfl rfl (fun b14 => ?_))
        refine ZF 10 rfl (.inr (Zz 1 rfl)) (ZA 0 ZZ rfl rfl rfl rfl rfl rfl (by rfl) ?_)
        refine ZF 11 rfl (.inr (Zz 1 rfl)) (Zs rfl (ZS rfl) ?_)
        refine ZR (.inl (by kernel_rfl)) ?_
        refine Zf <| Zc <| Za <| gm rfl rfl <| gr rfl (Z2 Tryz.underlying53 YY rfl rfl (by omega) (by omega)) ?_
        refine gr rfl (Zh Tryz.underlying36 rfl rfl (by exact Zq 3 rfl rfl)) ?_
        refine Zn (ZD rfl (vf := []) (vc := []) rfl rfl Tryz.call17 (fun w1 ho => Zdy _ w1 (.inl rfl)) ?_)
        rintro _ _ ⟨rfl, rfl⟩
        refine gm rfl rfl <| gr rfl (Zp rfl rfl) <| gr rfl (Zp rfl rfl) <| gas rfl rfl <| gas rfl rfl <| gA <| Zc <| YI [_, _, _, _, _, _, _, _, _, _, _, _, _, _, _, _, _, _, _, _, _, _, _, _, _, _, _] qs.hl [0, 1, 2, 3, 4, 5, 6, 7, 8, 9, 10, 11, 12, 13, 14, 15, 16, 17, 18, 19, 20, 21, 22, 23, 24, 25, 26] true 9 rfl rfl <| Zb 0 rfl rfl (Zz 0 rfl) (Ze (Zi rfl)) ?_
        refine Zb 1 rfl rfl (Zz 0 rfl) (Ze (Z2 Tryz.underlying53 YY rfl rfl (by omega) (by omega))) ?_
        refine Zb 2 rfl rfl (Zz 0 rfl) (Ze (Zh Tryz.underlying36 rfl rfl (by exact Zq 3 rfl rfl))) ?_
        refine Zb 3 rfl rfl (Zz 0 rfl) (Ze (Zr Tryz.underlying26 rfl ZZ rfl (by exact ZH 1 (off := 0) (k := 2) rfl rfl) rfl)) ?_
        refine ZF 4 rfl (.inr (Zz 0 rfl)) (ZD rfl (vf := []) (vc := []) rfl rfl Tryz.call18 (fun w1 ho => Zi5 _ w1 (.inl rfl) none none 0 0 0 0) ?_)
        rintro _ _ ⟨rfl, rfl⟩
        refine Zb 5 rfl rfl (Zz 0 rfl) (Ze (Zi rfl)) ?_
        refine Zb 6 rfl rfl (Zz 0 rfl) (Ze (Zp rfl rfl)) ?_
        refine Zb 7 rfl rfl (Zz 0 rfl) (Ze (Zp rfl rfl)) ?_
        refine Zb 8 rfl rfl (Zz 0 rfl) (Ze (ZS rfl)) ?_
        refine Zb 9 rfl rfl (Zz 0 rfl) (Ze (ZS rfl)) ?_
        refine ZR (.inr (Zz 0 rfl)) ?_
        refine Zf <| Zc <| YI [_, _, _, _, _, _, _, _, _, _, _, _, _, _, _, _, _, _, _, _, _, _, _, _, _, _, _] qs.hl [0, 1, 2, 3, 4, 5, 6, 7, 8, 9, 10, 11, 12, 13, 14, 15, 16, 17, 18, 19, 20, 21, 22, 23, 24, 25, 26] true 47 rfl rfl <| Zb 0 rfl rfl (Zz 0 rfl) (Ze (Zi rfl)) ?_
        refine Zb 1 rfl rfl (Zz 0 rfl) (Ze (Z2 Tryz.underlying53 YY rfl rfl (by omega) (by omega))) ?_
        refine Zb 2 rfl rfl (Zz 0 rfl) (Ze (Zh Tryz.underlying36 rfl rfl (by exact Zq 3 rfl rfl))) ?_
        refine Zb 3 rfl rfl (Zz 0 rfl) (Ze (Zr Tryz.underlying23 rfl YB rfl (by exact ZH 2 (off := 0) (k := 3) rfl rfl) rfl)) ?_
        refine Zb 4 rfl rfl (Zz 0 rfl) (Ze (Zr Tryz.underlying26 rfl ZZ rfl (by exact ZH 1 (off := 0) (k := 2) rfl rfl) rfl)) ?_
        refine Zb 6 rfl rfl (Zz 0 rfl) (Ze (Zi rfl)) ?_
        refine ZF 5 rfl (.inr (Zz 0 rfl)) (ZD rfl (vf := []) (vc := []) rfl rfl Tryz.call19 (fun w1 ho => Zfw _ w1 (.inl rfl) ⟨1, -1, 1⟩ none none 0 0 0 0) ?_)
        rintro _ _ ⟨rfl, rfl⟩
        refine Zb 7 rfl rfl (Zz 0 rfl) (Ze (ZP rfl rfl)) (Zv (fun h100 => ?_) (fun h100 => ?_))
        · exact absurd rfl h100
        refine Zb 8 rfl rfl (Zz 0 rfl) (Ze (Zi rfl)) ?_
        refine Zm 9 rfl rfl rfl rfl rfl (Zz 0 rfl) (Ze (Zi rfl)) ?_
        refine Zm 10 rfl rfl rfl rfl rfl (Zz 0 rfl) (Ze (Zi rfl)) ?_
        refine Zm 11 rfl rfl rfl rfl rfl (Zz 0 rfl) (Ze (ZP rfl rfl)) (Zv (fun h104 => ?_) (fun h104 => ?_))
        · exact absurd rfl h104
        refine Zb 12 rfl rfl (Zz 0 rfl) (Ze (Zo rfl rfl)) ?_
        refine Zb 13 rfl rfl (Zz 0 rfl) (Ze (Zi rfl)) ?_
        refine Zm 14 rfl rfl rfl rfl rfl (Zz 0 rfl) (Ze (Zi rfl)) ?_
        refine Zm 15 rfl rfl rfl rfl rfl (Zz 0 rfl) (Ze (Z2 Tryz.underlying53 YY rfl rfl (by omega) (by omega))) ?_
        refine Zm 16 rfl rfl rfl rfl rfl (Zz 0 rfl) (Ze (Zh Tryz.underlying36 rfl rfl (by exact Zq 3 rfl rfl))) ?_
        refine Zm 17 rfl rfl rfl rfl rfl (Zz 0 rfl) (Ze (Zr Tryz.underlying23 rfl YB rfl (by exact ZH 2 (off := 0) (k := 3) rfl rfl) rfl)) ?_
        refine Zm 19 rfl rfl rfl rfl rfl (Zz 0 rfl) (Ze (Zi rfl)) ?_
        refine XE 18 rfl rfl rfl rfl (.inr (Zz 0 rfl)) (ZD rfl (vf := []) (vc := []) rfl rfl Tryz.call20 (fun w1 ho => Zb1 _ w1 (.inl rfl) ⟨1, -1, 1⟩) ?_)
        rintro _ _ ⟨rfl, rfl⟩
        refine Zm 20 rfl rfl rfl rfl rfl (Zz 0 rfl) (Ze (ZP rfl rfl)) (Zv (fun h113 => ?_) (fun h113 => ?_))
        · exact absurd rfl h113
        refine Zb 21 rfl rfl (Zz 0 rfl) (Ze (Zo rfl rfl)) ?_
        refine Zb 22 rfl rfl (Zz 0 rfl) (Ze (Zi rfl)) ?_
        refine Zm 23 rfl rfl rfl rfl rfl (Zz 0 rfl) (Ze (Zi rfl)) ?_
        refine Zm 24 rfl rfl rfl rfl rfl (Zz 0 rfl) (Ze (Z2 Tryz.underlying53 YY rfl rfl (by omega) (by omega))) ?_
        refine Zm 25 rfl rfl rfl rfl rfl (Zz 0 rfl) (Ze (Zh Tryz.underlying36 rfl rfl (by exact Zq 3 rfl rfl))) ?_
        refine Zm 27 rfl rfl rfl rfl rfl (Zz 0 rfl) (Ze (Zi rfl)) ?_
        refine XE 26 rfl rfl rfl rfl (.inr (Zz 0 rfl)) (ZD rfl (vf := []) (vc := []) rfl rfl Tryz.call21 (fun w1 ho => Zdx _ w1 (.inl rfl) 1 1) ?_)
        rintro _ _ ⟨rfl, rfl⟩
        refine Zm 28 rfl rfl rfl rfl rfl (Zz 0 rfl) (Ze (ZP rfl rfl)) (Zv (fun h121 => ?_) (fun h121 => ?_))
        · exact absurd rfl h121
        refine Zb 29 rfl rfl (Zz 0 rfl) (Ze (Zo rfl rfl)) ?_
        refine Zb 30 rfl rfl (Zz 0 rfl) (Ze (Zi rfl)) ?_
        refine Zm 31 rfl rfl rfl rfl rfl (Zz 0 rfl) (Ze (Zi rfl)) ?_
        refine Zm 32 rfl rfl rfl rfl rfl (Zz 0 rfl) (Ze (ZG Tryz.underlying56 rfl)) ?_
        refine Zm 33 rfl rfl rfl rfl rfl (Zz 0 rfl) (Ze (Zi rfl)) ?_
        refine Zm 34 rfl rfl rfl rfl rfl (Zz 0 rfl) (Ze (ZG Tryz.underlying56 rfl)) ?_
        refine Zm 35 rfl rfl rfl rfl rfl (Zz 0 rfl) (Ze (by exact ZN rfl rfl (by omega))) ?_
        refine Zm 36 rfl rfl rfl rfl rfl (Zz 0 rfl) (Ze (ZP rfl rfl)) (Zv (fun h129 => ?_) (fun h129 => ?_))
        · exact absurd rfl h129
        refine Zb 37 rfl rfl (Zz 0 rfl) (Ze (Zo rfl rfl)) ?_
        refine Zb 38 rfl rfl (Zz 0 rfl) (Ze (Zi rfl)) ?_
        refine Zm 39 rfl rfl rfl rfl rfl (Zz 0 rfl) (Ze (Zi rfl)) ?_
        refine Zm 40 rfl rfl rfl rfl rfl (Zz 0 rfl) (Ze (Zi rfl)) ?_
        refine Zm 41 rfl rfl rfl rfl rfl (Zz 0 rfl) (Ze (ZP rfl rfl)) (Zv (fun h134 => ?_) (fun h134 => ?_))
        · exact absurd rfl h134
        refine Zb 42 rfl rfl (Zz 0 rfl) (Ze (Zo rfl rfl)) ?_
        refine Zb 43 rfl rfl (Zz 0 rfl) (Ze (Zi rfl)) ?_
        refine Zm 44 rfl rfl rfl rfl rfl (Zz 0 rfl) (Ze (Zi rfl)) ?_
        refine Zm 45 rfl rfl rfl rfl rfl (Zz 0 rfl) (Ze (Zi rfl)) ?_
        refine Zm 46 rfl rfl rfl rfl rfl (Zz 0 rfl) (Ze (ZP rfl rfl)) (Zv (fun h139 => ?_) (fun h139 => ?_))
        · exact absurd rfl h139
        refine Zb 47 rfl rfl (Zz 0 rfl) (Ze (Zo rfl rfl)) ?_
        refine ZR (.inr (Zz 0 rfl)) ?_
        refine Zf <| Zk rfl <| Zx <| ZM <| Zf <| Za <| gm rfl rfl <| gr rfl (by exact ZN (b := 1) rfl rfl (by omega)) ?_
        refine gas rfl rfl <| ZW <| Zf ?_
        exact Z1 (0 + 1) ⟨by omega, by omega⟩ ⟨rfl, rfl, rfl, rfl, rfl, rfl, trivial⟩ (Zz 1 rfl)
      refine (ZO ZZ rfl rfl (fun b14 => ?_))
      refine ZF 5 rfl (.inr (Zz 1 rfl)) (ZD rfl (vf := []) (vc := []) rfl rfl Tryz.call16 (fun w1 ho => Zb2 _ w1 (.inl rfl) ⟨1, -1, 1⟩ none none 0 0 0 0) ?_)
      rintro _ _ ⟨rfl, rfl⟩
      refine Zb 6 rfl rfl (Zz 1 rfl) (Ze (Zi rfl)) ?_
      refine Zb 7 rfl rfl (Zz 1 rfl) (Ze (Zp rfl rfl)) ?_
      refine Zb 8 rfl rfl (Zz 1 rfl) (Ze (Zp rfl rfl)) ?_
      refine ZF 10 rfl (.inr (Zz 1 rfl)) (ZA 0 ZZ rfl rfl rfl rfl rfl rfl (by rfl) ?_)
      refine ZF 11 rfl (.inr (Zz 1 rfl)) (Zs rfl (ZS rfl) ?_)
      refine ZR (.inl (by kernel_rfl)) ?_
      refine Zf <| Zc <| Za <| gm rfl rfl <| gr rfl (Z2 Tryz.underlying53 YY rfl rfl (by omega) (by omega)) ?_
      refine gr rfl (Zh Tryz.underlying36 rfl rfl (by exact Zq 3 rfl rfl)) ?_
      refine Zn (ZD rfl (vf := []) (vc := []) rfl rfl Tryz.call17 (fun w1 ho => Zdy _ w1 (.inl rfl)) ?_)
      rintro _ _ ⟨rfl, rfl⟩
      refine gm rfl rfl <| gr rfl (Zp rfl rfl) <| gr rfl (Zp rfl rfl) <| gas rfl rfl <| gas rfl rfl <| gA <| Zc <| YI [_, _, _, _, _, _, _, _, _, _, _, _, _, _, _, _, _, _, _, _, _, _, _, _, _, _, _] qs.hl [0, 1, 2, 3, 4, 5, 6, 7, 8, 9, 10, 11, 12, 13, 14, 15, 16, 17, 18, 19, 20, 21, 22, 23, 24, 25, 26] true 9 rfl rfl <| Zb 0 rfl rfl (Zz 0 rfl) (Ze (Zi rfl)) ?_
      refine Zb 1 rfl rfl (Zz 0 rfl) (Ze (Z2 Tryz.underlying53 YY rfl rfl (by omega) (by omega))) ?_
      refine Zb 2 rfl rfl (Zz 0 rfl) (Ze (Zh Tryz.underlying36 rfl rfl (by exact Zq 3 rfl rfl))) ?_
      refine Zb 3 rfl rfl (Zz 0 rfl) (Ze (Zr Tryz.underlying26 rfl ZZ rfl (by exact ZH 1 (off := 0) (k := 2) rfl rfl) rfl)) ?_
      refine ZF 4 rfl (.inr (Zz 0 rfl)) (ZD rfl (vf := []) (vc := []) rfl rfl Tryz.call18 (fun w1 ho => Zi5 _ w1 (.inl rfl) none none 0 0 0 0) ?_)
      rintro _ _ ⟨rfl, rfl⟩
      refine Zb 5 rfl rfl (Zz 0 rfl) (Ze (Zi rfl)) ?_
      refine Zb 6 rfl rfl (Zz 0 rfl) (Ze (Zp rfl rfl)) ?_
      refine Zb 7 rfl rfl (Zz 0 rfl) (Ze (Zp rfl rfl)) ?_
      refine Zb 8 rfl rfl (Zz 0 rfl) (Ze (ZS rfl)) ?_
      refine Zb 9 rfl rfl (Zz 0 rfl) (Ze (ZS rfl)) ?_
      refine ZR (.inr (Zz 0 rfl)) ?_
      refine Zf <| Zc <| YI [_, _, _, _, _, _, _, _, _, _, _, _, _, _, _, _, _, _, _, _, _, _, _, _, _, _, _] qs.hl [0, 1, 2, 3, 4, 5, 6, 7, 8, 9, 10, 11, 12, 13, 14, 15, 16, 17, 18, 19, 20, 21, 22, 23, 24, 25, 26] true 47 rfl rfl <| Zb 0 rfl rfl (Zz 0 rfl) (Ze (Zi rfl)) ?_
      refine Zb 1 rfl rfl (Zz 0 rfl) (Ze (Z2 Tryz.underlying53 YY rfl rfl (by omega) (by omega))) ?_
      refine Zb 2 rfl rfl (Zz 0 rfl) (Ze (Zh Tryz.underlying36 rfl rfl (by exact Zq 3 rfl rfl))) ?_
      refine Zb 3 rfl rfl (Zz 0 rfl) (Ze (Zr Tryz.underlying23 rfl YB rfl (by exact ZH 2 (off := 0) (k := 3) rfl rfl) rfl)) ?_
      refine Zb 4 rfl rfl (Zz 0 rfl) (Ze (Zr Tryz.underlying26 rfl ZZ rfl (by exact ZH 1 (off := 0) (k := 2) rfl rfl) rfl)) ?_
      refine Zb 6 rfl rfl (Zz 0 rfl) (Ze (Zi rfl)) ?_
      refine ZF 5 rfl (.inr (Zz 0 rfl)) (ZD rfl (vf := []) (vc := []) rfl rfl Tryz.call19 (fun w1 ho => Zfw _ w1 (.inl rfl) ⟨1, -1, 1⟩ none none 0 0 0 0) ?_)
      rintro _ _ ⟨rfl, rfl⟩
      refine Zb 7 rfl rfl (Zz 0 rfl) (Ze (ZP rfl rfl)) (Zv (fun h100 => ?_) (fun h100 => ?_))
      · exact absurd rfl h100
      refine Zb 8 rfl rfl (Zz 0 rfl) (Ze (Zi rfl)) ?_
      refine Zm 9 rfl rfl rfl rfl rfl (Zz 0 rfl) (Ze (Zi rfl)) ?_
      refine Zm 10 rfl rfl rfl rfl rfl (Zz 0 rfl) (Ze (Zi rfl)) ?_
      refine Zm 11 rfl rfl rfl rfl rfl (Zz 0 rfl) (Ze (ZP rfl rfl)) (Zv (fun h104 => ?_) (fun h104 => ?_))
      · exact absurd rfl h104
      refine Zb 12 rfl rfl (Zz 0 rfl) (Ze (Zo rfl rfl)) ?_
      refine Zb 13 rfl rfl (Zz 0 rfl) (Ze (Zi rfl)) ?_
      refine Zm 14 rfl rfl rfl rfl rfl (Zz 0 rfl) (Ze (Zi rfl)) ?_
      refine Zm 15 rfl rfl rfl rfl rfl (Zz 0 rfl) (Ze (Z2 Tryz.underlying53 YY rfl rfl (by omega) (by omega))) ?_
      refine Zm 16 rfl rfl rfl rfl rfl (Zz 0 rfl) (Ze (Zh Tryz.underlying36 rfl rfl (by exact Zq 3 rfl rfl))) ?_
      refine Zm 17 rfl rfl rfl rfl rfl (Zz 0 rfl) (Ze (Zr Tryz.underlying23 rfl YB rfl (by exact ZH 2 (off := 0) (k := 3) rfl rfl) rfl)) ?_
      refine Zm 19 rfl rfl rfl rfl rfl (Zz 0 rfl) (Ze (Zi rfl)) ?_
      refine XE 18 rfl rfl rfl rfl (.inr (Zz 0 rfl)) (ZD rfl (vf := []) (vc := []) rfl rfl Tryz.call20 (fun w1 ho => Zb1 _ w1 (.inl rfl) ⟨1, -1, 1⟩) ?_)
      rintro _ _ ⟨rfl, rfl⟩
      refine Zm 20 rfl rfl rfl rfl rfl (Zz 0 rfl) (Ze (ZP rfl rfl)) (Zv (fun h113 => ?_) (fun h113 => ?_))
      · exact absurd rfl h113
      refine Zb 21 rfl rfl (Zz 0 rfl) (Ze (Zo rfl rfl)) ?_
      refine Zb 22 rfl rfl (Zz 0 rfl) (Ze (Zi rfl)) ?_
      refine Zm 23 rfl rfl rfl rfl rfl (Zz 0 rfl) (Ze (Zi rfl)) ?_
      refine Zm 24 rfl rfl rfl rfl rfl (Zz 0 rfl) (Ze (Z2 Tryz.underlying53 YY rfl rfl (by omega) (by omega))) ?_
      refine Zm 25 rfl rfl rfl rfl rfl (Zz 0 rfl) (Ze (Zh Tryz.underlying36 rfl rfl (by exact Zq 3 rfl rfl))) ?_
      refine Zm 27 rfl rfl rfl rfl rfl (Zz 0 rfl) (Ze (Zi rfl)) ?_
      refine XE 26 rfl rfl rfl rfl (.inr (Zz 0 rfl)) (ZD rfl (vf := []) (vc := []) rfl rfl Tryz.call21 (fun w1 ho => Zdx _ w1 (.inl rfl) 1 1) ?_)
      rintro _ _ ⟨rfl, rfl⟩
      refine Zm 28 rfl rfl rfl rfl rfl (Zz 0 rfl) (Ze (ZP rfl rfl)) (Zv (fun h121 => ?_) (fun h121 => ?_))
      · exact absurd rfl h121
      refine Zb 29 rfl rfl (Zz 0 rfl) (Ze (Zo rfl rfl)) ?_
      refine Zb 30 rfl rfl (Zz 0 rfl) (Ze (Zi rfl)) ?_
      refine Zm 31 rfl rfl rfl rfl rfl (Zz 0 rfl) (Ze (Zi rfl)) ?_
      refine Zm 32 rfl rfl rfl rfl rfl (Zz 0 rfl) (Ze (ZG Tryz.underlying56 rfl)) ?_
      refine Zm 33 rfl rfl rfl rfl rfl (Zz 0 rfl) (Ze (Zi rfl)) ?_
      refine Zm 34 rfl rfl rfl rfl rfl (Zz 0 rfl) (Ze (ZG Tryz.underlying56 rfl)) ?_
      refine Zm 35 rfl rfl rfl rfl rfl (Zz 0 rfl) (Ze (by exact ZN rfl rfl (by omega))) ?_
      refine Zm 36 rfl rfl rfl rfl rfl (Zz 0 rfl) (Ze (ZP rfl rfl)) (Zv (fun h129 => ?_) (fun h129 => ?_))
      · exact absurd rfl h129
      refine Zb 37 rfl rfl (Zz 0 rfl) (Ze (Zo rfl rfl)) ?_
      refine Zb 38 rfl rfl (Zz 0 rfl) (Ze (Zi rfl)) ?_
      refine Zm 39 rfl rfl rfl rfl rfl (Zz 0 rfl) (Ze (Zi rfl)) ?_
      refine Zm 40 rfl rfl rfl rfl rfl (Zz 0 rfl) (Ze (Zi rfl)) ?_
      refine Zm 41 rfl rfl rfl rfl rfl (Zz 0 rfl) (Ze (ZP rfl rfl)) (Zv (fun h134 => ?_) (fun h134 => ?_))
      · exact absurd rfl h134
      refine Zb 42 rfl rfl (Zz 0 rfl) (Ze (Zo rfl rfl)) ?_
      refine Zb 43 rfl rfl (Zz 0 rfl) (Ze (Zi rfl)) ?_
      refine Zm 44 rfl rfl rfl rfl rfl (Zz 0 rfl) (Ze (Zi rfl)) ?_
      refine Zm 45 rfl rfl rfl rfl rfl (Zz 0 rfl) (Ze (Zi rfl)) ?_
      refine Zm 46 rfl rfl rfl rfl rfl (Zz 0 rfl) (Ze (ZP rfl rfl)) (Zv (fun h139 => ?_) (fun h139 => ?_))
      · exact absurd rfl h139
      refine Zb 47 rfl rfl (Zz 0 rfl) (Ze (Zo rfl rfl)) ?_
      refine ZR (.inr (Zz 0 rfl)) ?_
      refine Zf <| Zk rfl <| Zx <| ZM <| Zf <| Za <| gm rfl rfl <| gr rfl (by exact ZN (b := 1) rfl rfl (by omega)) ?_
      refine gas rfl rfl <| ZW <| Zf ?_
      exact Z1 (0 + 1) ⟨by omega, by omega⟩ ⟨rfl, rfl, rfl, rfl, rfl, rfl, trivial⟩ (Zz 1 rfl)
    · refine Za <| gas rfl rfl <| gA <| Zc <| Zc <| Za <| gm rfl rfl <| gr rfl (Yr rfl rfl) (Zv (fun h68 => ?_) (fun h68 => ?_))
      · exact absurd h68 (by decide)
      refine gA <| Zk rfl <| Zx <| Zf <| Zc <| YI [_, _, _, _, _, _, _, _, _, _, _, _, _, _, _, _, _, _, _, _, _, _, _, _, _, _] qs.hl [0, 1, 2, 3, 4, 5, 6, 7, 8, 9, 10, 11, 12, 13, 14, 15, 16, 17, 18, 19, 20, 21, 22, 23, 24, 25] false 11 rfl rfl <| Zb 0 rfl rfl (Zz 0 rfl) (Ze (Zi rfl)) ?_
      refine Zb 1 rfl rfl (Zz 0 rfl) (Ze (Z2 Tryz.underlying53 YY rfl rfl (by omega) (by omega))) ?_
      refine Zb 2 rfl rfl (Zz 0 rfl) (Ze (Zh Tryz.underlying36 rfl rfl (by exact Zq 2 rfl rfl))) ?_
      refine Zb 3 rfl rfl (Zz 0 rfl) (Ze (Zr Tryz.underlying23 rfl YB rfl (by exact ZH 1 (off := 0) (k := 3) rfl rfl) rfl)) ?_
      refine Zb 4 rfl rfl (Zz 0 rfl) (Ze (Zr Tryz.underlying26 rfl ZZ rfl (by exact ZH 0 (off := 0) (k := 2) rfl rfl) rfl)) ?_
      refine Jy 5 9 (Gv.bm 12 63) (Gv.bm 12 543) rfl rfl rfl rfl (by kernel_rfl) (by kernel_rfl) (by kernel_rfl) (.inr (Zz 0 rfl)) ?_ ?_
      · refine (ZD rfl (vf := []) (vc := []) rfl rfl Tryz.call16 (fun w1 ho => Zb2 _ w1 (.inr ⟨b58, rfl, ho.blkCell 3 rfl rfl⟩) ⟨1, -1, 1⟩ none none 0 0 0 0) ?_)
        rintro _ _ ⟨rfl, rfl⟩
        refine Zb 6 rfl rfl (Zz 0 rfl) (Ze (Zi rfl)) ?_
        refine Zb 7 rfl rfl (Zz 0 rfl) (Ze (Zp rfl rfl)) ?_
        refine Zb 8 rfl rfl (Zz 0 rfl) (Ze (Zp rfl rfl)) ?_
        refine ZF 9 rfl (.inr (Zz 0 rfl)) (ZO ZZ rfl rfl (fun b14 => ?_))
        refine ZF 10 rfl (.inr (Zz 1 rfl)) (ZA 0 ZZ rfl rfl rfl rfl rfl rfl (by rfl) ?_)
        refine ZF 11 rfl (.inr (Zz 1 rfl)) (Zs rfl (ZS rfl) ?_)
        refine ZR (.inl (by kernel_rfl)) ?_
        refine Zf <| Zc <| Za <| gm rfl rfl <| gr rfl (Z2 Tryz.underlying53 YY rfl rfl (by omega) (by omega)) ?_
        refine gr rfl (Zh Tryz.underlying36 rfl rfl (by exact Zq 3 rfl rfl)) ?_
        refine Zn (ZD rfl (vf := []) (vc := []) rfl rfl Tryz.call17 (fun w1 ho => Zdy _ w1 (.inr ⟨b58, rfl, ho.blkCell 4 rfl rfl⟩)) ?_)
        rintro _ _ ⟨rfl, rfl⟩
        refine gm rfl rfl <| gr rfl (Zp rfl rfl) <| gr rfl (Zp rfl rfl) <| gas rfl rfl <| gas rfl rfl <| gA <| Zc <| YI [_, _, _, _, _, _, _, _, _, _, _, _, _, _, _, _, _, _, _, _, _, _, _, _, _, _, _] qs.hl [0, 1, 2, 3, 4, 5, 6, 7, 8, 9, 10, 11, 12, 13, 14, 15, 16, 17, 18, 19, 20, 21, 22, 23, 24, 25, 26] true 9 rfl rfl <| Zb 0 rfl rfl (Zz 0 rfl) (Ze (Zi rfl)) ?_
        refine Zb 1 rfl rfl (Zz 0 rfl) (Ze (Z2 Tryz.underlying53 YY rfl rfl (by omega) (by omega))) ?_
        refine Zb 2 rfl rfl (Zz 0 rfl) (Ze (Zh Tryz.underlying36 rfl rfl (by exact Zq 3 rfl rfl))) ?_
        refine Zb 3 rfl rfl (Zz 0 rfl) (Ze (Zr Tryz.underlying26 rfl ZZ rfl (by exact ZH 1 (off := 0) (k := 2) rfl rfl) rfl)) ?_
        refine ZF 4 rfl (.inr (Zz 0 rfl)) (ZD rfl (vf := []) (vc := []) rfl rfl Tryz.call18 (fun w1 ho => Zi5 _ w1 (.inr ⟨b58, rfl, ho.blkCell 4 rfl rfl⟩) none none 0 0 0 0) ?_)
        rintro _ _ ⟨rfl, rfl⟩
        refine Zb 5 rfl rfl (Zz 0 rfl) (Ze (Zi rfl)) ?_
        refine Zb 6 rfl rfl (Zz 0 rfl) (Ze (Zp rfl rfl)) ?_
        refine Zb 7 rfl rfl (Zz 0 rfl) (Ze (Zp rfl rfl)) ?_
        refine Zb 8 rfl rfl (Zz 0 rfl) (Ze (ZS rfl)) ?_
        refine Zb 9 rfl rfl (Zz 0 rfl) (Ze (ZS rfl)) ?_
        refine ZR (.inr (Zz 0 rfl)) ?_
        refine Zf <| Zc <| YI [_, _, _, _, _, _, _, _, _, _, _, _, _, _, _, _, _, _, _, _, _, _, _, _, _, _, _] qs.hl [0, 1, 2, 3, 4, 5, 6, 7, 8, 9, 10, 11, 12, 13, 14, 15, 16, 17, 18, 19, 20, 21, 22, 23, 24, 25, 26] true 47 rfl rfl <| Zb 0 rfl rfl (Zz 0 rfl) (Ze (Zi rfl)) ?_
        refine Zb 1 rfl rfl (Zz 0 rfl) (Ze (Z2 Tryz.underlying53 YY rfl rfl (by omega) (by omega))) ?_
        refine Zb 2 rfl rfl (Zz 0 rfl) (Ze (Zh Tryz.underlying36 rfl rfl (by exact Zq 3 rfl rfl))) ?_
        refine Zb 3 rfl rfl (Zz 0 rfl) (Ze (Zr Tryz.underlying23 rfl YB rfl (by exact ZH 2 (off := 0) (k := 3) rfl rfl) rfl)) ?_
        refine Zb 4 rfl rfl (Zz 0 rfl) (Ze (Zr Tryz.underlying26 rfl ZZ rfl (by exact ZH 1 (off := 0) (k := 2) rfl rfl) rfl)) ?_
        refine Zb 6 rfl rfl (Zz 0 rfl) (Ze (Zi rfl)) ?_
        refine ZF 5 rfl (.inr (Zz 0 rfl)) (ZD rfl (vf := []) (vc := []) rfl rfl Tryz.call19 (fun w1 ho => Zfw _ w1 (.inr ⟨b58, rfl, ho.blkCell 4 rfl rfl⟩) ⟨1, -1, 1⟩ none none 0 0 0 0) ?_)
        rintro _ _ ⟨rfl, rfl⟩
        refine Zb 7 rfl rfl (Zz 0 rfl) (Ze (ZP rfl rfl)) (Zv (fun h100 => ?_) (fun h100 => ?_))
        · exact absurd rfl h100
        refine Zb 8 rfl rfl (Zz 0 rfl) (Ze (Zi rfl)) ?_
        refine Zm 9 rfl rfl rfl rfl rfl (Zz 0 rfl) (Ze (Zi rfl)) ?_
        refine Zm 10 rfl rfl rfl rfl rfl (Zz 0 rfl) (Ze (Zi rfl)) ?_
        refine Zm 11 rfl rfl rfl rfl rfl (Zz 0 rfl) (Ze (ZP rfl rfl)) (Zv (fun h104 => ?_) (fun h104 => ?_))
        · exact absurd rfl h104
        refine Zb 12 rfl rfl (Zz 0 rfl) (Ze (Zo rfl rfl)) ?_
        refine Zb 13 rfl rfl (Zz 0 rfl) (Ze (Zi rfl)) ?_
        refine Zm 14 rfl rfl rfl rfl rfl (Zz 0 rfl) (Ze (Zi rfl)) ?_
        refine Zm 15 rfl rfl rfl rfl rfl (Zz 0 rfl) (Ze (Z2 Tryz.underlying53 YY rfl rfl (by omega) (by omega))) ?_
        refine Zm 16 rfl rfl rfl rfl rfl (Zz 0 rfl) (Ze (Zh Tryz.underlying36 rfl rfl (by exact Zq 3 rfl rfl))) ?_
        refine Zm 17 rfl rfl rfl rfl rfl (Zz 0 rfl) (Ze (Zr Tryz.underlying23 rfl YB rfl (by exact ZH 2 (off := 0) (k := 3) rfl rfl) rfl)) ?_
        refine Zm 19 rfl rfl rfl rfl rfl (Zz 0 rfl) (Ze (Zi rfl)) ?_
        refine XE 18 rfl rfl rfl rfl (.inr (Zz 0 rfl)) (ZD rfl (vf := []) (vc := []) rfl rfl Tryz.call20 (fun w1 ho => Zb1 _ w1 (.inr ⟨b58, rfl, ho.blkCell 4 rfl rfl⟩) ⟨1, -1, 1⟩) ?_)
        rintro _ _ ⟨rfl, rfl⟩
        refine Zm 20 rfl rfl rfl rfl rfl (Zz 0 rfl) (Ze (ZP rfl rfl)) (Zv (fun h113 => ?_) (fun h113 => ?_))
        · exact absurd rfl h113
        refine Zb 21 rfl rfl (Zz 0 rfl) (Ze (Zo rfl rfl)) ?_
        refine Zb 22 rfl rfl (Zz 0 rfl) (Ze (Zi rfl)) ?_
        refine Zm 23 rfl rfl rfl rfl rfl (Zz 0 rfl) (Ze (Zi rfl)) ?_
        refine Zm 24 rfl rfl rfl rfl rfl (Zz 0 rfl) (Ze (Z2 Tryz.underlying53 YY rfl rfl (by omega) (by omega))) ?_
        refine Zm 25 rfl rfl rfl rfl rfl (Zz 0 rfl) (Ze (Zh Tryz.underlying36 rfl rfl (by exact Zq 3 rfl rfl))) ?_
        refine Zm 27 rfl rfl rfl rfl rfl (Zz 0 rfl) (Ze (Zi rfl)) ?_
        refine XE 26 rfl rfl rfl rfl (.inr (Zz 0 rfl)) (ZD rfl (vf := []) (vc := []) rfl rfl Tryz.call21 (fun w1 ho => Zdx _ w1 (.inr ⟨b58, rfl, ho.blkCell 4 rfl rfl⟩) 1 1) ?_)
        rintro _ _ ⟨rfl, rfl⟩
        refine Zm 28 rfl rfl rfl rfl rfl (Zz 0 rfl) (Ze (ZP rfl rfl)) (Zv (fun h121 => ?_) (fun h121 => ?_))
        · exact absurd rfl h121
        refine Zb 29 rfl rfl (Zz 0 rfl) (Ze (Zo rfl rfl)) ?_
        refine Zb 30 rfl rfl (Zz 0 rfl) (Ze (Zi rfl)) ?_
        refine Zm 31 rfl rfl rfl rfl rfl (Zz 0 rfl) (Ze (Zi rfl)) ?_
        refine Zm 32 rfl rfl rfl rfl rfl (Zz 0 rfl) (Ze (ZG Tryz.underlying56 rfl)) ?_
        refine Zm 33 rfl rfl rfl rfl rfl (Zz 0 rfl) (Ze (Zi rfl)) ?_
        refine Zm 34 rfl rfl rfl rfl rfl (Zz 0 rfl) (Ze (ZG Tryz.underlying56 rfl)) ?_
        refine Zm 35 rfl rfl rfl rfl rfl (Zz 0 rfl) (Ze (by exact ZN rfl rfl (by omega))) ?_
        refine Zm 36 rfl rfl rfl rfl rfl (Zz 0 rfl) (Ze (ZP rfl rfl)) (Zv (fun h129 => ?_) (fun h129 => ?_))
        · exact absurd rfl h129
        refine Zb 37 rfl rfl (Zz 0 rfl) (Ze (Zo rfl rfl)) ?_
        refine Zb 38 rfl rfl (Zz 0 rfl) (Ze (Zi rfl)) ?_
        refine Zm 39 rfl rfl rfl rfl rfl (Zz 0 rfl) (Ze (Zi rfl)) ?_
        refine Zm 40 rfl rfl rfl rfl rfl (Zz 0 rfl) (Ze (Zi rfl)) ?_
        refine Zm 41 rfl rfl rfl rfl rfl (Zz 0 rfl) (Ze (ZP rfl rfl)) (Zv (fun h134 => ?_) (fun h134 => ?_))
        · exact absurd rfl h134
        refine Zb 42 rfl rfl (Zz 0 rfl) (Ze (Zo rfl rfl)) ?_
        refine Zb 43 rfl rfl (Zz 0 rfl) (Ze (Zi rfl)) ?_
        refine Zm 44 rfl rfl rfl rfl rfl (Zz 0 rfl) (Ze (Zi rfl)) ?_
        refine Zm 45 rfl rfl rfl rfl rfl (Zz 0 rfl) (Ze (Zi rfl)) ?_
        refine Zm 46 rfl rfl rfl rfl rfl (Zz 0 rfl) (Ze (ZP rfl rfl)) (Zv (fun h139 => ?_) (fun h139 => ?_))
        · exact absurd rfl h139
        refine Zb 47 rfl rfl (Zz 0 rfl) (Ze (Zo rfl rfl)) ?_
        refine ZR (.inr (Zz 0 rfl)) ?_
        refine Zf <| Zk rfl <| Zx <| ZM <| Zf <| Za <| gm rfl rfl <| gr rfl (by exact ZN (b := 1) rfl rfl (by omega)) ?_
        refine gas rfl rfl <| ZW <| Zf ?_
        exact Z1 (1 + 1) ⟨by omega, by omega⟩ ⟨rfl, rfl, rfl, rfl, rfl, rfl, trivial⟩ (Zz 1 rfl)
      refine (ZO ZZ rfl rfl (fun b14 => ?_))
      refine ZF 5 rfl (.inr (Zz 1 rfl)) (ZD rfl (vf := []) (vc := []) rfl rfl Tryz.call16 (fun w1 ho => Zb2 _ w1 (.inr ⟨b58, rfl, ho.blkCell 4 rfl rfl⟩) ⟨1, -1, 1⟩ none none 0 0 0 0) ?_)
      rintro _ _ ⟨rfl, rfl⟩
      refine Zb 6 rfl rfl (Zz 1 rfl) (Ze (Zi rfl)) ?_
      refine Zb 7 rfl rfl (Zz 1 rfl) (Ze (Zp rfl rfl)) ?_
      refine Zb 8 rfl rfl (Zz 1 rfl) (Ze (Zp rfl rfl)) ?_
      refine ZF 10 rfl (.inr (Zz 1 rfl)) (ZA 0 ZZ rfl rfl rfl rfl rfl rfl (by rfl) ?_)
      refine ZF 11 rfl (.inr (Zz 1 rfl)) (Zs rfl (ZS rfl) ?_)
      refine ZR (.inl (by kernel_rfl)) ?_
      refine Zf <| Zc <| Za <| gm rfl rfl <| gr rfl (Z2 Tryz.underlying53 YY rfl rfl (by omega) (by omega)) ?_
      refine gr rfl (Zh Tryz.underlying36 rfl rfl (by exact Zq 3 rfl rfl)) ?_
      refine Zn (ZD rfl (vf := []) (vc := []) rfl rfl Tryz.call17 (fun w1 ho => Zdy _ w1 (.inr ⟨b58, rfl, ho.blkCell 4 rfl rfl⟩)) ?_)
      rintro _ _ ⟨rfl, rfl⟩
      refine gm rfl rfl <| gr rfl (Zp rfl rfl) <| gr rfl (Zp rfl rfl) <| gas rfl rfl <| gas rfl rfl <| gA <| Zc <| YI [_, _, _, _, _, _, _, _, _, _, _, _, _, _, _, _, _, _, _, _, _, _, _, _, _, _, _] qs.hl [0, 1, 2, 3, 4, 5, 6, 7, 8, 9, 10, 11, 12, 13, 14, 15, 16, 17, 18, 19, 20, 21, 22, 23, 24, 25, 26] true 9 rfl rfl <| Zb 0 rfl rfl (Zz 0 rfl) (Ze (Zi rfl)) ?_
      refine Zb 1 rfl rfl (Zz 0 rfl) (Ze (Z2 Tryz.underlying53 YY rfl rfl (by omega) (by omega))) ?_
      refine Zb 2 rfl rfl (Zz 0 rfl) (Ze (Zh Tryz.underlying36 rfl rfl (by exact Zq 3 rfl rfl))) ?_
      refine Zb 3 rfl rfl (Zz 0 rfl) (Ze (Zr Tryz.underlying26 rfl ZZ rfl (by exact ZH 1 (off := 0) (k := 2) rfl rfl) rfl)) ?_
      refine ZF 4 rfl (.inr (Zz 0 rfl)) (ZD rfl (vf := []) (vc := []) rfl rfl Tryz.call18 (fun w1 ho => Zi5 _ w1 (.inr ⟨b58, rfl, ho.blkCell 4 rfl rfl⟩) none none 0 0 0 0) ?_)
      rintro _ _ ⟨rfl, rfl⟩
      refine Zb 5 rfl rfl (Zz 0 rfl) (Ze (Zi rfl)) ?_
      refine Zb 6 rfl rfl (Zz 0 rfl) (Ze (Zp rfl rfl)) ?_
      refine Zb 7 rfl rfl (Zz 0 rfl) (Ze (Zp rfl rfl)) ?_
      refine Zb 8 rfl rfl (Zz 0 rfl) (Ze (ZS rfl)) ?_
      refine Zb 9 rfl rfl (Zz 0 rfl) (Ze (ZS rfl)) ?_
      refine ZR (.inr (Zz 0 rfl)) ?_
      refine Zf <| Zc <| YI [_, _, _, _, _, _, _, _, _, _, _, _, _, _, _, _, _, _, _, _, _, _, _, _, _, _, _] qs.hl [0, 1, 2, 3, 4, 5, 6, 7, 8, 9, 10, 11, 12, 13, 14, 15, 16, 17, 18, 19, 20, 21, 22, 23, 24, 25, 26] true 47 rfl rfl <| Zb 0 rfl rfl (Zz 0 rfl) (Ze (Zi rfl)) ?_
      refine Zb 1 rfl rfl (Zz 0 rfl) (Ze (Z2 Tryz.underlying53 YY rfl rfl (by omega) (by omega))) ?_
      refine Zb 2 rfl rfl (Zz 0 rfl) (Ze (Zh Tryz.underlying36 rfl rfl (by exact Zq 3 rfl rfl))) ?_
      refine Zb 3 rfl rfl (Zz 0 rfl) (Ze (Zr Tryz.underlying23 rfl YB rfl (by exact ZH 2 (off := 0) (k := 3) rfl rfl) rfl)) ?_
      refine Zb 4 rfl rfl (Zz 0 rfl) (Ze (Zr Tryz.underlying26 rfl ZZ rfl (by exact ZH 1 (off := 0) (k := 2) rfl rfl) rfl)) ?_
      refine Zb 6 rfl rfl (Zz 0 rfl) (Ze (Zi rfl)) ?_
      refine ZF 5 rfl (.inr (Zz 0 rfl)) (ZD rfl (vf := []) (vc := []) rfl rfl Tryz.call19 (fun w1 ho => Zfw _ w1 (.inr ⟨b58, rfl, ho.blkCell 4 rfl rfl⟩) ⟨1, -1, 1⟩ none none 0 0 0 0) ?_)
      rintro _ _ ⟨rfl, rfl⟩
      refine Zb 7 rfl rfl (Zz 0 rfl) (Ze (ZP rfl rfl)) (Zv (fun h100 => ?_) (fun h100 => ?_))
      · exact absurd rfl h100
      refine Zb 8 rfl rfl (Zz 0 rfl) (Ze (Zi rfl)) ?_
      refine Zm 9 rfl rfl rfl rfl rfl (Zz 0 rfl) (Ze (Zi rfl)) ?_
      refine Zm 10 rfl rfl rfl rfl rfl (Zz 0 rfl) (Ze (Zi rfl)) ?_
      refine Zm 11 rfl rfl rfl rfl rfl (Zz 0 rfl) (Ze (ZP rfl rfl)) (Zv (fun h104 => ?_) (fun h104 => ?_))
      · exact absurd rfl h104
      refine Zb 12 rfl rfl (Zz 0 rfl) (Ze (Zo rfl rfl)) ?_
      refine Zb 13 rfl rfl (Zz 0 rfl) (Ze (Zi rfl)) ?_
      refine Zm 14 rfl rfl rfl rfl rfl (Zz 0 rfl) (Ze (Zi rfl)) ?_
      refine Zm 15 rfl rfl rfl rfl rfl (Zz 0 rfl) (Ze (Z2 Tryz.underlying53 YY rfl rfl (by omega) (by omega))) ?_
      refine Zm 16 rfl rfl rfl rfl rfl (Zz 0 rfl) (Ze (Zh Tryz.underlying36 rfl rfl (by exact Zq 3 rfl rfl))) ?_
      refine Zm 17 rfl rfl rfl rfl rfl (Zz 0 rfl) (Ze (Zr Tryz.underlying23 rfl YB rfl (by exact ZH 2 (off := 0) (k := 3) rfl rfl) rfl)) ?_
      refine Zm 19 rfl rfl rfl rfl rfl (Zz 0 rfl) (Ze (Zi rfl)) ?_
      refine XE 18 rfl rfl rfl rfl (.inr (Zz 0 rfl)) (ZD rfl (vf := []) (vc := []) rfl rfl Tryz.call20 (fun w1 ho => Zb1 _ w1 (.inr ⟨b58, rfl, ho.blkCell 4 rfl rfl⟩) ⟨1, -1, 1⟩) ?_)
      rintro _ _ ⟨rfl, rfl⟩
      refine Zm 20 rfl rfl rfl rfl rfl (Zz 0 rfl) (Ze (ZP rfl rfl)) (Zv (fun h113 => ?_) (fun h113 => ?_))
      · exact absurd rfl h113
      refine Zb 21 rfl rfl (Zz 0 rfl) (Ze (Zo rfl rfl)) ?_
      refine Zb 22 rfl rfl (Zz 0 rfl) (Ze (Zi rfl)) ?_
      refine Zm 23 rfl rfl rfl rfl rfl (Zz 0 rfl) (Ze (Zi rfl)) ?_
      refine Zm 24 rfl rfl rfl rfl rfl (Zz 0 rfl) (Ze (Z2 Tryz.underlying53 YY rfl rfl (by omega) (by omega))) ?_
      refine Zm 25 rfl rfl rfl rfl rfl (Zz 0 rfl) (Ze (Zh Tryz.underlying36 rfl rfl (by exact Zq 3 rfl rfl))) ?_
      refine Zm 27 rfl rfl rfl rfl rfl (Zz 0 rfl) (Ze (Zi rfl)) ?_
      refine XE 26 rfl rfl rfl rfl (.inr (Zz 0 rfl)) (ZD rfl (vf := []) (vc := []) rfl rfl Tryz.call21 (fun w1 ho => Zdx _ w1 (.inr ⟨b58, rfl, ho.blkCell 4 rfl rfl⟩) 1 1) ?_)
      rintro _ _ ⟨rfl, rfl⟩
      refine Zm 28 rfl rfl rfl rfl rfl (Zz 0 rfl) (Ze (ZP rfl rfl)) (Zv (fun h121 => ?_) (fun h121 => ?_))
      · exact absurd rfl h121
      refine Zb 29 rfl rfl (Zz 0 rfl) (Ze (Zo rfl rfl)) ?_
      refine Zb 30 rfl rfl (Zz 0 rfl) (Ze (Zi rfl)) ?_
      refine Zm 31 rfl rfl rfl rfl rfl (Zz 0 rfl) (Ze (Zi rfl)) ?_
      refine Zm 32 rfl rfl rfl rfl rfl (Zz 0 rfl) (Ze (ZG Tryz.underlying56 rfl)) ?_
      refine Zm 33 rfl rfl rfl rfl rfl (Zz 0 rfl) (Ze (Zi rfl)) ?_
      refine Zm 34 rfl rfl rfl rfl rfl (Zz 0 rfl) (Ze (ZG Tryz.underlying56 rfl)) ?_
      refine Zm 35 rfl rfl rfl rfl rfl (Zz 0 rfl) (Ze (by exact ZN rfl rfl (by omega))) ?_
      refine Zm 36 rfl rfl rfl rfl rfl (Zz 0 rfl) (Ze (ZP rfl rfl)) (Zv (fun h129 => ?_) (fun h129 => ?_))
      · exact absurd rfl h129
      refine Zb 37 rfl rfl (Zz 0 rfl) (Ze (Zo rfl rfl)) ?_
      refine Zb 38 rfl rfl (Zz 0 rfl) (Ze (Zi rfl)) ?_
      refine Zm 39 rfl rfl rfl rfl rfl (Zz 0 rfl) (Ze (Zi rfl)) ?_
      refine Zm 40 rfl rfl rfl rfl rfl (Zz 0 rfl) (Ze (Zi rfl)) ?_
      refine Zm 41 rfl rfl rfl rfl rfl (Zz 0 rfl) (Ze (ZP rfl rfl)) (Zv (fun h134 => ?_) (fun h134 => ?_))
      · exact absurd rfl h134
      refine Zb 42 rfl rfl (Zz 0 rfl) (Ze (Zo rfl rfl)) ?_
      refine Zb 43 rfl rfl (Zz 0 rfl) (Ze (Zi rfl)) ?_
      refine Zm 44 rfl rfl rfl rfl rfl (Zz 0 rfl) (Ze (Zi rfl)) ?_
      refine Zm 45 rfl rfl rfl rfl rfl (Zz 0 rfl) (Ze (Zi rfl)) ?_
      refine Zm 46 rfl rfl rfl rfl rfl (Zz 0 rfl) (Ze (ZP rfl rfl)) (Zv (fun h139 => ?_) (fun h139 => ?_))
      · exact absurd rfl h139
      refine Zb 47 rfl rfl (Zz 0 rfl) (Ze (Zo rfl rfl)) ?_
      refine ZR (.inr (Zz 0 rfl)) ?_
      refine Zf <| Zk rfl <| Zx <| ZM <| Zf <| Za <| gm rfl rfl <| gr rfl (by exact ZN (b := 1) rfl rfl (by omega)) ?_
      refine gas rfl rfl <| ZW <| Zf ?_
      exact Z1 (1 + 1) ⟨by omega, by omega⟩ ⟨rfl, rfl, rfl, rfl, rfl, rfl, trivial⟩ (Zz 1 rfl)
    refine Za <| gas rfl rfl <| gA <| Zc <| Zc <| Za <| gm rfl rfl <| gr rfl (Yr rfl rfl) (Zv (fun h68 => ?_) (fun h68 => ?_))
    · refine gA <| Zj rfl <| Za <| gas rfl rfl <| gA <| Zc <| YI [_, _, _, _, _, _, _, _, _, _, _, _, _, _, _, _, _, _, _, _, _, _, _, _, _, _] qs.hl [0, 1, 2, 3, 4, 5, 6, 7, 8, 9, 10, 11, 12, 13, 14, 15, 16, 17, 18, 19, 20, 21, 22, 23, 24, 25] false 11 rfl rfl <| Zb 0 rfl rfl (Zz 0 rfl) (Ze (Zi rfl)) ?_
      refine Zb 1 rfl rfl (Zz 0 rfl) (Ze (Z2 Tryz.underlying53 YY rfl rfl (by omega) (by omega))) ?_
      refine Zb 2 rfl rfl (Zz 0 rfl) (Ze (Zh Tryz.underlying36 rfl rfl (by exact Zq 2 rfl rfl))) ?_
      refine Zb 3 rfl rfl (Zz 0 rfl) (Ze (Zr Tryz.underlying23 rfl YB rfl (by exact ZH 1 (off := 0) (k := 3) rfl rfl) rfl)) ?_
      refine Zb 4 rfl rfl (Zz 0 rfl) (Ze (Zr Tryz.underlying26 rfl ZZ rfl (by exact ZH 0 (off := 0) (k := 2) rfl rfl) rfl)) ?_
      refine Jy 5 9 (Gv.bm 12 63) (Gv.bm 12 543) rfl rfl rfl rfl (by kernel_rfl) (by kernel_rfl) (by kernel_rfl) (.inr (Zz 0 rfl)) ?_ ?_
      · refine (Z6 [_, _, _, _, _, _, _, _, _, _, _, _, _, _, _, _, _, _, _, _, _, _, _, _, _, _] qs.hl rfl rfl (vf := []) (vc := []) rfl rfl Tryz.call16 rfl (fun w how hc => Zcp qs V2 2 (.inr hs) _ w hc (by decide) (clS (WG xd xr x1 x2 x3 xt xc) c9) bp (Wl (A := [_, _, _, _, _, _, _, _, _, _, _, _, _, _, _, _, _, _, _, _, _, _, _, _, _, _]) how 22 24 25 rfl rfl rfl hp2.nd hp2.ns hp2.nc) ⟨1, -1, 1⟩ (fun hx r hk => hst2.rg hx hk) [] [] none none 0 0 (by decide) (by decide) (XN _ _ _) (XN _ _ _)) ?_)
        rintro _ _ ⟨e9, p9, r9, c9x, r8, c8, rfl, rfl, hpi⟩
        obtain ⟨rfl, rfl⟩ := Zfv h9 (by kernel_rfl) (by kernel_rfl) hpi
        refine Zb 6 rfl rfl (ZJ (A := [_, _, _, _, _, _, _, _, _, _, _, _, _, _, _, _, _, _, _, _, _, _, _, _, _, _]) (B := [_, _, _, _, _, _, _, _, _, _, _, _, _, _, _, _, _, _, _, _, _, _, _, _, _, _, _, _]) (T := qs.hl) [0, 1, 2, 3, 4, 5, 6, 7, 8, 9, 10, 11, 12, 13, 14, 15, 16, 17, 18, 19, 20, 21, 22, 23, 24, 25] 28 (by decide) (by decide) rfl rfl) (Ze (Zi rfl)) ?_
        refine Zb 7 rfl rfl (ZJ (A := [_, _, _, _, _, _, _, _, _, _, _, _, _, _, _, _, _, _, _, _, _, _, _, _, _, _]) (B := [_, _, _, _, _, _, _, _, _, _, _, _, _, _, _, _, _, _, _, _, _, _, _, _, _, _, _, _]) (T := qs.hl) [0, 1, 2, 3, 4, 5, 6, 7, 8, 9, 10, 11, 12, 13, 14, 15, 16, 17, 18, 19, 20, 21, 22, 23, 24, 25] 28 (by decide) (by decide) rfl rfl) (Ze (Zp rfl rfl)) ?_
        refine Zb 8 rfl rfl (ZJ (A := [_, _, _, _, _, _, _, _, _, _, _, _, _, _, _, _, _, _, _, _, _, _, _, _, _, _]) (B := [_, _, _, _, _, _, _, _, _, _, _, _, _, _, _, _, _, _, _, _, _, _, _, _, _, _, _, _]) (T := qs.hl) [0, 1, 2, 3, 4, 5, 6, 7, 8, 9, 10, 11, 12, 13, 14, 15, 16, 17, 18, 19, 20, 21, 22, 23, 24, 25] 28 (by decide) (by decide) rfl rfl) (Ze (Zp rfl rfl)) ?_
        refine ZF 9 rfl (.inr (ZJ (A := [_, _, _, _, _, _, _, _, _, _, _, _, _, _, _, _, _, _, _, _, _, _, _, _, _, _]) (B := [_, _, _, _, _, _, _, _, _, _, _, _, _, _, _, _, _, _, _, _, _, _, _, _, _, _, _, _]) (T := qs.hl) [0, 1, 2, 3, 4, 5, 6, 7, 8, 9, 10, 11, 12, 13, 14, 15, 16, 17, 18, 19, 20, 21, 22, 23, 24, 25] 28 (by decide) (by decide) rfl rfl)) (ZO ZZ rfl rfl (fun b14 => ?_))
        refine ZF 10 rfl (.inr (ZJ (A := [_, _, _, _, _, _, _, _, _, _, _, _, _, _, _, _, _, _, _, _, _, _, _, _, _, _]) (B := [_, _, _, _, _, _, _, _, _, _, _, _, _, _, _, _, _, _, _, _, _, _, _, _, _, _, _, _, _]) (T := qs.hl) [1, 2, 3, 4, 5, 6, 7, 8, 9, 10, 11, 12, 13, 14, 15, 16, 17, 18, 19, 20, 21, 22, 23, 24, 25, 26] 29 (by decide) (by decide) rfl rfl)) (ZA 0 ZZ rfl rfl rfl rfl rfl rfl (by rfl) ?_)
        refine ZF 11 rfl (.inr (ZJ (A := [_, _, _, _, _, _, _, _, _, _, _, _, _, _, _, _, _, _, _, _, _, _, _, _, _, _]) (B := [_, _, _, _, _, _, _, _, _, _, _, _, _, _, _, _, _, _, _, _, _, _, _, _, _, _, _, _, _]) (T := qs.hl) [1, 2, 3, 4, 5, 6, 7, 8, 9, 10, 11, 12, 13, 14, 15, 16, 17, 18, 19, 20, 21, 22, 23, 24, 25, 26] 29 (by decide) (by decide) rfl rfl)) (Zs rfl (ZS rfl) ?_)
        refine ZR (.inl (by kernel_rfl)) ?_
        refine Zf <| Zc <| Za <| gm rfl rfl <| gr rfl (Z2 Tryz.underlying53 YY rfl rfl (by omega) (by omega)) ?_
        refine gr rfl (Zh Tryz.underlying36 rfl rfl (by exact Zq 3 rfl rfl)) ?_
        refine Zn (Z6 [_, _, _, _, _, _, _, _, _, _, _, _, _, _, _, _, _, _, _, _, _, _, _, _, _, _, _, _, _] qs.hl rfl rfl (vf := []) (vc := []) rfl rfl Tryz.call17 rfl (fun w how hc => Zlh qs V2 2 (clS (WG xd xr x1 x2 x3 xt xc) c9) ([], []) (.inr hs) _ w hc (by decide) bp (Wl (A := [_, _, _, _, _, _, _, _, _, _, _, _, _, _, _, _, _, _, _, _, _, _, _, _, _, _, _, _, _]) how 23 25 26 rfl rfl rfl hp2.nd hp2.ns hp2.nc)) ?_)
        rintro _ _ ⟨r7, c7, rfl, rfl⟩
        rw [if_neg (show ¬ qs.err = 0 by rw [h9]; decide), h9]
        refine gm rfl rfl <| gr rfl (Zp rfl rfl) <| gr rfl (Zp rfl rfl) <| gas rfl rfl <| gas rfl rfl <| gA <| Zc <| YI [_, _, _, _, _, _, _, _, _, _, _, _, _, _, _, _, _, _, _, _, _, _, _, _, _, _, _, _, _, _] qs.hl [0, 1, 2, 3, 4, 5, 6, 7, 8, 9, 10, 11, 12, 13, 14, 15, 16, 17, 18, 19, 20, 21, 22, 23, 24, 25, 26, 27, 28, 29] true 9 rfl rfl <| Zb 0 rfl rfl (Zz 0 rfl) (Ze (Zi rfl)) ?_
        refine Zb 1 rfl rfl (Zz 0 rfl) (Ze (Z2 Tryz.underlying53 YY rfl rfl (by omega) (by omega))) ?_
        refine Zb 2 rfl rfl (Zz 0 rfl) (Ze (Zh Tryz.underlying36 rfl rfl (by exact Zq 3 rfl rfl))) ?_
        refine Zb 3 rfl rfl (Zz 0 rfl) (Ze (Zr Tryz.underlying26 rfl ZZ rfl (by exact ZH 1 (off := 0) (k := 2) rfl rfl) rfl)) ?_
        refine ZF 4 rfl (.inr (Zz 0 rfl)) (Z6 [_, _, _, _, _, _, _, _, _, _, _, _, _, _, _, _, _, _, _, _, _, _, _, _, _, _, _, _, _, _] qs.hl rfl rfl (vf := []) (vc := []) rfl rfl Tryz.call18 rfl (fun w how hc => Znt qs V2 2 (clS (WG xd xr x1 x2 x3 xt xc) c9) ([], []) (.inr hs) _ w hc (by decide) bp (Wl (A := [_, _, _, _, _, _, _, _, _, _, _, _, _, _, _, _, _, _, _, _, _, _, _, _, _, _, _, _, _, _]) how 23 25 26 rfl rfl rfl hp2.nd hp2.ns hp2.nc) [] [] none none 0 0 (by decide) (by decide) (XN _ _ _) (XN _ _ _)) ?_)
        rintro _ _ ⟨e5, l5, r5, c5, rfl, rfl, hli⟩
        obtain ⟨rfl, rfl⟩ := Zlk h9 (by kernel_rfl) hli
        refine Zb 5 rfl rfl (ZJ (A := [_, _, _, _, _, _, _, _, _, _, _, _, _, _, _, _, _, _, _, _, _, _, _, _, _, _, _, _, _, _]) (B := [_, _, _, _, _, _, _, _, _, _, _, _, _, _, _, _, _, _, _, _, _, _, _, _, _, _, _, _, _, _, _]) (T := qs.hl) [0, 1, 2, 3, 4, 5, 6, 7, 8, 9, 10, 11, 12, 13, 14, 15, 16, 17, 18, 19, 20, 21, 22, 23, 24, 25, 26, 27, 28, 29] 31 (by decide) (by decide) rfl rfl) (Ze (Zi rfl)) ?_
        refine Zb 6 rfl rfl (ZJ (A := [_, _, _, _, _, _, _, _, _, _, _, _, _, _, _, _, _, _, _, _, _, _, _, _, _, _, _, _, _, _]) (B := [_, _, _, _, _, _, _, _, _, _, _, _, _, _, _, _, _, _, _, _, _, _, _, _, _, _, _, _, _, _, _]) (T := qs.hl) [0, 1, 2, 3, 4, 5, 6, 7, 8, 9, 10, 11, 12, 13, 14, 15, 16, 17, 18, 19, 20, 21, 22, 23, 24, 25, 26, 27, 28, 29] 31 (by decide) (by decide) rfl rfl) (Ze (Zp rfl rfl)) ?_
        refine Zb 7 rfl rfl (ZJ (A := [_, _, _, _, _, _, _, _, _, _, _, _, _, _, _, _, _, _, _, _, _, _, _, _, _, _, _, _, _, _]) (B := [_, _, _, _, _, _, _, _, _, _, _, _, _, _, _, _, _, _, _, _, _, _, _, _, _, _, _, _, _, _, _]) (T := qs.hl) [0, 1, 2, 3, 4, 5, 6, 7, 8, 9, 10, 11, 12, 13, 14, 15, 16, 17, 18, 19, 20, 21, 22, 23, 24, 25, 26, 27, 28, 29] 31 (by decide) (by decide) rfl rfl) (Ze (Zp rfl rfl)) ?_
        refine Zb 8 rfl rfl (ZJ (A := [_, _, _, _, _, _, _, _, _, _, _, _, _, _, _, _, _, _, _, _, _, _, _, _, _, _, _, _, _, _]) (B := [_, _, _, _, _, _, _, _, _, _, _, _, _, _, _, _, _, _, _, _, _, _, _, _, _, _, _, _, _, _, _]) (T := qs.hl) [0, 1, 2, 3, 4, 5, 6, 7, 8, 9, 10, 11, 12, 13, 14, 15, 16, 17, 18, 19, 20, 21, 22, 23, 24, 25, 26, 27, 28, 29] 31 (by decide) (by decide) rfl rfl) (Ze (ZS rfl)) ?_
        refine Zb 9 rfl rfl (ZJ (A := [_, _, _, _, _, _, _, _, _, _, _, _, _, _, _, _, _, _, _, _, _, _, _, _, _, _, _, _, _, _]) (B := [_, _, _, _, _, _, _, _, _, _, _, _, _, _, _, _, _, _, _, _, _, _, _, _, _, _, _, _, _, _, _]) (T := qs.hl) [0, 1, 2, 3, 4, 5, 6, 7, 8, 9, 10, 11, 12, 13, 14, 15, 16, 17, 18, 19, 20, 21, 22, 23, 24, 25, 26, 27, 28, 29] 31 (by decide) (by decide) rfl rfl) (Ze (ZS rfl)) ?_
        refine ZR (.inr (ZJ (A := [_, _, _, _, _, _, _, _, _, _, _, _, _, _, _, _, _, _, _, _, _, _, _, _, _, _, _, _, _, _]) (B := [_, _, _, _, _, _, _, _, _, _, _, _, _, _, _, _, _, _, _, _, _, _, _, _, _, _, _, _, _, _, _]) (T := qs.hl) [0, 1, 2, 3, 4, 5, 6, 7, 8, 9, 10, 11, 12, 13, 14, 15, 16, 17, 18, 19, 20, 21, 22, 23, 24, 25, 26, 27, 28, 29] 31 (by decide) (by decide) rfl rfl)) ?_
        refine Zf <| Zc <| YI [_, _, _, _, _, _, _, _, _, _, _, _, _, _, _, _, _, _, _, _, _, _, _, _, _, _, _, _, _, _, _] qs.hl [0, 1, 2, 3, 4, 5, 6, 7, 8, 9, 10, 11, 12, 13, 14, 15, 16, 17, 18, 19, 20, 21, 22, 23, 24, 25, 26, 27, 28, 29, 30] true 47 rfl rfl <| Zb 0 rfl rfl (Zz 0 rfl) (Ze (Zi rfl)) ?_
        refine Zb 1 rfl rfl (Zz 0 rfl) (Ze (Z2 Tryz.underlying53 YY rfl rfl (by omega) (by omega))) ?_
        refine Zb 2 rfl rfl (Zz 0 rfl) (Ze (Zh Tryz.underlying36 rfl rfl (by exact Zq 3 rfl rfl))) ?_
        refine Zb 3 rfl rfl (Zz 0 rfl) (Ze (Zr Tryz.underlying23 rfl YB rfl (by exact ZH 2 (off := 0) (k := 3) rfl rfl) rfl)) ?_
        refine Zb 4 rfl rfl (Zz 0 rfl) (Ze (Zr Tryz.underlying26 rfl ZZ rfl (by exact ZH 1 (off := 0) (k := 2) rfl rfl) rfl)) ?_
        refine Zb 6 rfl rfl (Zz 0 rfl) (Ze (Zi rfl)) ?_
        refine ZF 5 rfl (.inr (Zz 0 rfl)) (Z6 [_, _, _, _, _, _, _, _, _, _, _, _, _, _, _, _, _, _, _, _, _, _, _, _, _, _, _, _, _, _, _] qs.hl rfl rfl (vf := []) (vc := []) rfl rfl Tryz.call19 rfl (fun w how hc => Zi2 qs V2 2 (.inr hs) _ w hc (by decide) (clS (WG xd xr x1 x2 x3 xt xc) c9) bp (Wl (A := [_, _, _, _, _, _, _, _, _, _, _, _, _, _, _, _, _, _, _, _, _, _, _, _, _, _, _, _, _, _, _]) how 23 25 26 rfl rfl rfl hp2.nd hp2.ns hp2.nc) ⟨1, -1, 1⟩ [] [] none none 0 0 (by decide) (by decide) (XN _ _ _) (XN _ _ _)) ?_)
        rintro v9 T9 hput
        obtain ⟨rfl, rfl⟩ := Zlj hs h9 (by kernel_rfl) (by kernel_rfl) hput
        refine Zb 7 rfl rfl (Zz 0 rfl) (Ze (ZP rfl rfl)) (Zv (fun h100 => ?_) (fun h100 => ?_))
        · exact absurd rfl h100
        refine Zb 8 rfl rfl (Zz 0 rfl) (Ze (Zi rfl)) ?_
        refine Zm 9 rfl rfl rfl rfl rfl (Zz 0 rfl) (Ze (Zi rfl)) ?_
        refine Zm 10 rfl rfl rfl rfl rfl (Zz 0 rfl) (Ze (Zi rfl)) ?_
        refine Zm 11 rfl rfl rfl rfl rfl (Zz 0 rfl) (Ze (ZP rfl rfl)) (Zv (fun h104 => ?_) (fun h104 => ?_))
        · exact absurd rfl h104
        refine Zb 12 rfl rfl (Zz 0 rfl) (Ze (Zo rfl rfl)) ?_
        refine Zb 13 rfl rfl (Zz 0 rfl) (Ze (Zi rfl)) ?_
        refine Zm 14 rfl rfl rfl rfl rfl (Zz 0 rfl) (Ze (Zi rfl)) ?_
        refine Zm 15 rfl rfl rfl rfl rfl (Zz 0 rfl) (Ze (Z2 Tryz.underlying53 YY rfl rfl (by omega) (by omega))) ?_
        refine Zm 16 rfl rfl rfl rfl rfl (Zz 0 rfl) (Ze (Zh Tryz.underlying36 rfl rfl (by exact Zq 3 rfl rfl))) ?_
        refine Zm 17 rfl rfl rfl rfl rfl (Zz 0 rfl) (Ze (Zr Tryz.underlying23 rfl YB rfl (by exact ZH 2 (off := 0) (k := 3) rfl rfl) rfl)) ?_
        refine Zm 19 rfl rfl rfl rfl rfl (Zz 0 rfl) (Ze (Zi rfl)) ?_
        refine XE 18 rfl rfl rfl rfl (.inr (Zz 0 rfl)) (Z6 [_, _, _, _, _, _, _, _, _, _, _, _, _, _, _, _, _, _, _, _, _, _, _, _, _, _, _, _, _, _, _] qs.hl rfl rfl (vf := []) (vc := []) rfl rfl Tryz.call20 rfl (fun w how hc => Zhf qs V2 2 (.inr hs) _ w hc (by decide) (clS (WG xd xr x1 x2 x3 xt xc) c9) bp (Wl (A := [_, _, _, _, _, _, _, _, _, _, _, _, _, _, _, _, _, _, _, _, _, _, _, _, _, _, _, _, _, _, _]) how 23 25 26 rfl rfl rfl hp2.nd hp2.ns hp2.nc) ⟨1, -1, 1⟩) ?_)
        rintro v8 T8 hput
        obtain ⟨rfl, rfl⟩ := Zfu hs h9 (by kernel_rfl) hput
        refine Zm 20 rfl rfl rfl rfl rfl (Zz 0 rfl) (Ze (ZP rfl rfl)) (Zv (fun h113 => ?_) (fun h113 => ?_))
        · exact absurd rfl h113
        refine Zb 21 rfl rfl (Zz 0 rfl) (Ze (Zo rfl rfl)) ?_
        refine Zb 22 rfl rfl (Zz 0 rfl) (Ze (Zi rfl)) ?_
        refine Zm 23 rfl rfl rfl rfl rfl (Zz 0 rfl) (Ze (Zi rfl)) ?_
        refine Zm 24 rfl rfl rfl rfl rfl (Zz 0 rfl) (Ze (Z2 Tryz.underlying53 YY rfl rfl (by omega) (by omega))) ?_
        refine Zm 25 rfl rfl rfl rfl rfl (Zz 0 rfl) (Ze (Zh Tryz.underlying36 rfl rfl (by exact Zq 3 rfl rfl))) ?_
        refine Zm 27 rfl rfl rfl rfl rfl (Zz 0 rfl) (Ze (Zi rfl)) ?_
        refine XE 26 rfl rfl rfl rfl (.inr (Zz 0 rfl)) (Z6 [_, _, _, _, _, _, _, _, _, _, _, _, _, _, _, _, _, _, _, _, _, _, _, _, _, _, _, _, _, _, _] qs.hl rfl rfl (vf := []) (vc := []) rfl rfl Tryz.call21 rfl (fun w how hc => Zle qs V2 2 (clS (WG xd xr x1 x2 x3 xt xc) c9) ([], []) (.inr hs) _ w hc (by decide) bp (Wl (A := [_, _, _, _, _, _, _, _, _, _, _, _, _, _, _, _, _, _, _, _, _, _, _, _, _, _, _, _, _, _, _]) how 23 25 26 rfl rfl rfl hp2.nd hp2.ns hp2.nc) 1 1) ?_)
        rintro v7 T7 hput
        obtain ⟨rfl, rfl⟩ := Zhp h9 ⟨by decide, by decide, by decide, by decide⟩ hput
        refine Zm 28 rfl rfl rfl rfl rfl (Zz 0 rfl) (Ze (ZP rfl rfl)) (Zv (fun h121 => ?_) (fun h121 => ?_))
        · exact absurd rfl h121
        refine Zb 29 rfl rfl (Zz 0 rfl) (Ze (Zo rfl rfl)) ?_
        refine Zb 30 rfl rfl (Zz 0 rfl) (Ze (Zi rfl)) ?_
        refine Zm 31 rfl rfl rfl rfl rfl (Zz 0 rfl) (Ze (Zi rfl)) ?_
        refine Zm 32 rfl rfl rfl rfl rfl (Zz 0 rfl) (Ze (ZG Tryz.underlying56 rfl)) ?_
        refine Zm 33 rfl rfl rfl rfl rfl (Zz 0 rfl) (Ze (Zi rfl)) ?_
        refine Zm 34 rfl rfl rfl rfl rfl (Zz 0 rfl) (Ze (ZG Tryz.underlying56 rfl)) ?_
        refine Zm 35 rfl rfl rfl rfl rfl (Zz 0 rfl) (Ze (by exact ZN rfl rfl (by decide))) ?_
        refine Zm 36 rfl rfl rfl rfl rfl (Zz 0 rfl) (Ze (ZP rfl rfl)) (Zv (fun h129 => ?_) (fun h129 => ?_))
        · exact absurd rfl h129
        refine Zb 37 rfl rfl (Zz 0 rfl) (Ze (Zo rfl rfl)) ?_
        refine Zb 38 rfl rfl (Zz 0 rfl) (Ze (Zi rfl)) ?_
        refine Zm 39 rfl rfl rfl rfl rfl (Zz 0 rfl) (Ze (Zi rfl)) ?_
        refine Zm 40 rfl rfl rfl rfl rfl (Zz 0 rfl) (Ze (Zi rfl)) ?_
        refine Zm 41 rfl rfl rfl rfl rfl (Zz 0 rfl) (Ze (ZP rfl rfl)) (Zv (fun h134 => ?_) (fun h134 => ?_))
        · exact absurd rfl h134
        refine Zb 42 rfl rfl (Zz 0 rfl) (Ze (Zo rfl rfl)) ?_
        refine Zb 43 rfl rfl (Zz 0 rfl) (Ze (Zi rfl)) ?_
        refine Zm 44 rfl rfl rfl rfl rfl (Zz 0 rfl) (Ze (Zi rfl)) ?_
        refine Zm 45 rfl rfl rfl rfl rfl (Zz 0 rfl) (Ze (Zi rfl)) ?_
        refine Zm 46 rfl rfl rfl rfl rfl (Zz 0 rfl) (Ze (ZP rfl rfl)) (Zv (fun h139 => ?_) (fun h139 => ?_))
        · exact absurd rfl h139
        refine Zb 47 rfl rfl (Zz 0 rfl) (Ze (Zo rfl rfl)) ?_
        refine ZR (.inr (Zz 0 rfl)) ?_
        refine Zf <| Zk rfl <| Zx <| ZM <| Zf <| Za <| gm rfl rfl <| gr rfl (by exact ZN (b := 1) rfl rfl (by omega)) ?_
        refine gas rfl rfl <| ZW <| Zf ?_
        exact Z1 (2 + 1) ⟨by omega, by omega⟩ ⟨rfl, rfl, rfl, rfl, rfl, rfl, trivial⟩ (ZJ (A := [_, _, _, _, _, _, _, _, _, _, _, _, _, _, _, _, _, _, _, _, _, _, _, _, _, _]) (B := [_, _, _, _, _, _, _, _, _, _, _, _, _, _, _, _, _, _, _, _, _, _, _, _, _, _, _, _, _, _, _]) (T := qs.hl) [1, 2, 3, 4, 5, 6, 7, 8, 9, 10, 11, 12, 13, 14, 15, 16, 17, 18, 19, 20, 21, 22, 23, 24, 25, 26] 31 (by decide) (by decide) rfl rfl)
      refine (ZO ZZ rfl rfl (fun b14 => ?_))
      refine ZF 5 rfl (.inr (Zz 1 rfl)) (Z6 [_, _, _, _, _, _, _, _, _, _, _, _, _, _, _, _, _, _, _, _, _, _, _, _, _, _, _] qs.hl rfl rfl (vf := []) (vc := []) rfl rfl Tryz.call16 rfl (fun w how hc => Zcp qs V2 2 (.inr hs) _ w hc (by decide) (clS (WG xd xr x1 x2 x3 xt xc) c9) bp (Wl (A := [_, _, _, _, _, _, _, _, _, _, _, _, _, _, _, _, _, _, _, _, _, _, _, _, _, _, _]) how 23 25 26 rfl rfl rfl hp2.nd hp2.ns hp2.nc) ⟨1, -1, 1⟩ (fun hx r hk => hst2.rg hx hk) [] [] none none 0 0 (by decide) (by decide) (XN _ _ _) (XN _ _ _)) ?_)
      rintro _ _ ⟨e9, p9, r9, c9x, r8, c8, rfl, rfl, hpi⟩
      obtain ⟨rfl, rfl⟩ := Zfv h9 (by kernel_rfl) (by kernel_rfl) hpi
      refine Zb 6 rfl rfl (ZJ (A := [_, _, _, _, _, _, _, _, _, _, _, _, _, _, _, _, _, _, _, _, _, _, _, _, _, _]) (B := [_, _, _, _, _, _, _, _, _, _, _, _, _, _, _, _, _, _, _, _, _, _, _, _, _, _, _, _, _]) (T := qs.hl) [1, 2, 3, 4, 5, 6, 7, 8, 9, 10, 11, 12, 13, 14, 15, 16, 17, 18, 19, 20, 21, 22, 23, 24, 25, 26] 29 (by decide) (by decide) rfl rfl) (Ze (Zi rfl)) ?_
      refine Zb 7 rfl rfl (ZJ (A := [_, _, _, _, _, _, _, _, _, _, _, _, _, _, _, _, _, _, _, _, _, _, _, _, _, _]) (B := [_, _, _, _, _, _, _, _, _, _, _, _, _, _, _, _, _, _, _, _, _, _, _, _, _, _, _, _, _]) (T := qs.hl) [1, 2, 3, 4, 5, 6, 7, 8, 9, 10, 11, 12, 13, 14, 15, 16, 17, 18, 19, 20, 21, 22, 23, 24, 25, 26] 29 (by decide) (by decide) rfl rfl) (Ze (Zp rfl rfl)) ?_
      refine Zb 8 rfl rfl (ZJ (A := [_, _, _, _, _, _, _, _, _, _, _, _, _, _, _, _, _, _, _, _, _, _, _, _, _, _]) (B := [_, _, _, _, _, _, _, _, _, _, _, _, _, _, _, _, _, _, _, _, _, _, _, _, _, _, _, _, _]) (T := qs.hl) [1, 2, 3, 4, 5, 6, 7, 8, 9, 10, 11, 12, 13, 14, 15, 16, 17, 18, 19, 20, 21, 22, 23, 24, 25, 26] 29 (by decide) (by decide) rfl rfl) (Ze (Zp rfl rfl)) ?_
      refine ZF 10 rfl (.inr (ZJ (A := [_, _, _, _, _, _, _, _, _, _, _, _, _, _, _, _, _, _, _, _, _, _, _, _, _, _]) (B := [_, _, _, _, _, _, _, _, _, _, _, _, _, _, _, _, _, _, _, _, _, _, _, _, _, _, _, _, _]) (T := qs.hl) [1, 2, 3, 4, 5, 6, 7, 8, 9, 10, 11, 12, 13, 14, 15, 16, 17, 18, 19, 20, 21, 22, 23, 24, 25, 26] 29 (by decide) (by decide) rfl rfl)) (ZA 0 ZZ rfl rfl rfl rfl rfl rfl (by rfl) ?_)
      refine ZF 11 rfl (.inr (ZJ (A := [_, _, _, _, _, _, _, _, _, _, _, _, _, _, _, _, _, _, _, _, _, _, _, _, _, _]) (B := [_, _, _, _, _, _, _, _, _, _, _, _, _, _, _, _, _, _, _, _, _, _, _, _, _, _, _, _, _]) (T := qs.hl) [1, 2, 3, 4, 5, 6, 7, 8, 9, 10, 11, 12, 13, 14, 15, 16, 17, 18, 19, 20, 21, 22, 23, 24, 25, 26] 29 (by decide) (by decide) rfl rfl)) (Zs rfl (ZS rfl) ?_)
      refine ZR (.inl (by kernel_rfl)) ?_
      refine Zf <| Zc <| Za <| gm rfl rfl <| gr rfl (Z2 Tryz.underlying53 YY rfl rfl (by omega) (by omega)) ?_
      refine gr rfl (Zh Tryz.underlying36 rfl rfl (by exact Zq 3 rfl rfl)) ?_
      refine Zn (Z6 [_, _, _, _, _, _, _, _, _, _, _, _, _, _, _, _, _, _, _, _, _, _, _, _, _, _, _, _, _] qs.hl rfl rfl (vf := []) (vc := []) rfl rfl Tryz.call17 rfl (fun w how hc => Zlh qs V2 2 (clS (WG xd xr x1 x2 x3 xt xc) c9) ([], []) (.inr hs) _ w hc (by decide) bp (Wl (A := [_, _, _, _, _, _, _, _, _, _, _, _, _, _, _, _, _, _, _, _, _, _, _, _, _, _, _, _, _]) how 23 25 26 rfl rfl rfl hp2.nd hp2.ns hp2.nc)) ?_)
      rintro _ _ ⟨r7, c7, rfl, rfl⟩
      rw [if_neg (show ¬ qs.err = 0 by rw [h9]; decide), h9]
      refine gm rfl rfl <| gr rfl (Zp rfl rfl) <| gr rfl (Zp rfl rfl) <| gas rfl rfl <| gas rfl rfl <| gA <| Zc <| YI [_, _, _, _, _, _, _, _, _, _, _, _, _, _, _, _, _, _, _, _, _, _, _, _, _, _, _, _, _, _] qs.hl [0, 1, 2, 3, 4, 5, 6, 7, 8, 9, 10, 11, 12, 13, 14, 15, 16, 17, 18, 19, 20, 21, 22, 23, 24, 25, 26, 27, 28, 29] true 9 rfl rfl <| Zb 0 rfl rfl (Zz 0 rfl) (Ze (Zi rfl)) ?_
      refine Zb 1 rfl rfl (Zz 0 rfl) (Ze (Z2 Tryz.underlying53 YY rfl rfl (by omega) (by omega))) ?_
      refine Zb 2 rfl rfl (Zz 0 rfl) (Ze (Zh Tryz.underlying36 rfl rfl (by exact Zq 3 rfl rfl))) ?_
      refine Zb 3 rfl rfl (Zz 0 rfl) (Ze (Zr Tryz.underlying26 rfl ZZ rfl (by exact ZH 1 (off := 0) (k := 2) rfl rfl) rfl)) ?_
      refine ZF 4 rfl (.inr (Zz 0 rfl)) (Z6 [_, _, _, _, _, _, _, _, _, _, _, _, _, _, _, _, _, _, _, _, _, _, _, _, _, _, _, _, _, _] qs.hl rfl rfl (vf := []) (vc := []) rfl rfl Tryz.call18 rfl (fun w how hc => Znt qs V2 2 (clS (WG xd xr x1 x2 x3 xt xc) c9) ([], []) (.inr hs) _ w hc (by decide) bp (Wl (A := [_, _, _, _, _, _, _, _, _, _, _, _, _, _, _, _, _, _, _, _, _, _, _, _, _, _, _, _, _, _]) how 23 25 26 rfl rfl rfl hp2.nd hp2.ns hp2.nc) [] [] none none 0 0 (by decide) (by decide) (XN _ _ _) (XN _ _ _)) ?_)
      rintro _ _ ⟨e5, l5, r5, c5, rfl, rfl, hli⟩
      obtain ⟨rfl, rfl⟩ := Zlk h9 (by kernel_rfl) hli
      refine Zb 5 rfl rfl (ZJ (A := [_, _, _, _, _, _, _, _, _, _, _, _, _, _, _, _, _, _, _, _, _, _, _, _, _, _, _, _, _, _]) (B := [_, _, _, _, _, _, _, _, _, _, _, _, _, _, _, _, _, _, _, _, _, _, _, _, _, _, _, _, _, _, _]) (T := qs.hl) [0, 1, 2, 3, 4, 5, 6, 7, 8, 9, 10, 11, 12, 13, 14, 15, 16, 17, 18, 19, 20, 21, 22, 23, 24, 25, 26, 27, 28, 29] 31 (by decide) (by decide) rfl rfl) (Ze (Zi rfl)) ?_
      refine Zb 6 rfl rfl (ZJ (A := [_, _, _, _, _, _, _, _, _, _, _, _, _, _, _, _, _, _, _, _, _, _, _, _, _, _, _, _, _, _]) (B := [_, _, _, _, _, _, _, _, _, _, _, _, _, _, _, _, _, _, _, _, _, _, _, _, _, _, _, _, _, _, _]) (T := qs.hl) [0, 1, 2, 3, 4, 5, 6, 7, 8, 9, 10, 11, 12, 13, 14, 15, 16, 17, 18, 19, 20, 21, 22, 23, 24, 25, 26, 27, 28, 29] 31 (by decide) (by decide) rfl rfl) (Ze (Zp rfl rfl)) ?_
      refine Zb 7 rfl rfl (ZJ (A := [_, _, _, _, _, _, _, _, _, _, _, _, _, _, _, _, _, _, _, _, _, _, _, _, _, _, _, _, _, _]) (B := [_, _, _, _, _, _, _, _, _, _, _, _, _, _, _, _, _, _, _, _, _, _, _, _, _, _, _, _, _, _, _]) (T := qs.hl) [0, 1, 2, 3, 4, 5, 6, 7, 8, 9, 10, 11, 12, 13, 14, 15, 16, 17, 18, 19, 20, 21, 22, 23, 24, 25, 26, 27, 28, 29] 31 (by decide) (by decide) rfl rfl) (Ze (Zp rfl rfl)) ?_
      refine Zb 8 rfl rfl (ZJ (A := [_, _, _, _, _, _, _, _, _, _, _, _, _, _, _, _, _, _, _, _, _, _, _, _, _, _, _, _, _, _]) (B := [_, _, _, _, _, _, _, _, _, _, _, _, _, _, _, _, _, _, _, _, _, _, _, _, _, _, _, _, _, _, _]) (T := qs.hl) [0, 1, 2, 3, 4, 5, 6, 7, 8, 9, 10, 11, 12, 13, 14, 15, 16, 17, 18, 19, 20, 21, 22, 23, 24, 25, 26, 27, 28, 29] 31 (by decide) (by decide) rfl rfl) (Ze (ZS rfl)) ?_
      refine Zb 9 rfl rfl (ZJ (A := [_, _, _, _, _, _, _, _, _, _, _, _, _, _, _, _, _, _, _, _, _, _, _, _, _, _, _, _, _, _]) (B := [_, _, _, _, _, _, _, _, _, _, _, _, _, _, _, _, _, _, _, _, _, _, _, _, _, _, _, _, _, _, _]) (T := qs.hl) [0, 1, 2, 3, 4, 5, 6, 7, 8, 9, 10, 11, 12, 13, 14, 15, 16, 17, 18, 19, 20, 21, 22, 23, 24, 25, 26, 27, 28, 29] 31 (by decide) (by decide) rfl rfl) (Ze (ZS rfl)) ?_
      refine ZR (.inr (ZJ (A := [_, _, _, _, _, _, _, _, _, _, _, _, _, _, _, _, _, _, _, _, _, _, _, _, _, _, _, _, _, _]) (B := [_, _, _, _, _, _, _, _, _, _, _, _, _, _, _, _, _, _, _, _, _, _, _, _, _, _, _, _, _, _, _]) (T := qs.hl) [0, 1, 2, 3, 4, 5, 6, 7, 8, 9, 10, 11, 12, 13, 14, 15, 16, 17, 18, 19, 20, 21, 22, 23, 24, 25, 26, 27, 28, 29] 31 (by decide) (by decide) rfl rfl)) ?_
      refine Zf <| Zc <| YI [_, _, _, _, _, _, _, _, _, _, _, _, _, _, _, _, _, _, _, _, _, _, _, _, _, _, _, _, _, _, _] qs.hl [0, 1, 2, 3, 4, 5, 6, 7, 8, 9, 10, 11, 12, 13, 14, 15, 16, 17, 18, 19, 20, 21, 22, 23, 24, 25, 26, 27, 28, 29, 30] true 47 rfl rfl <| Zb 0 rfl rfl (Zz 0 rfl) (Ze (Zi rfl)) ?_
      refine Zb 1 rfl rfl (Zz 0 rfl) (Ze (Z2 Tryz.underlying53 YY rfl rfl (by omega) (by omega))) ?_
      refine Zb 2 rfl rfl (Zz 0 rfl) (Ze (Zh Tryz.underlying36 rfl rfl (by exact Zq 3 rfl rfl))) ?_
      refine Zb 3 rfl rfl (Zz 0 rfl) (Ze (Zr Tryz.underlying23 rfl YB rfl (by exact ZH 2 (off := 0) (k := 3) rfl rfl) rfl)) ?_
      refine Zb 4 rfl rfl (Zz 0 rfl) (Ze (Zr Tryz.underlying26 rfl ZZ rfl (by exact ZH 1 (off := 0) (k := 2) rfl rfl) rfl)) ?_
      refine Zb 6 rfl rfl (Zz 0 rfl) (Ze (Zi rfl)) ?_
      refine ZF 5 rfl (.inr (Zz 0 rfl)) (Z6 [_, _, _, _, _, _, _, _, _, _, _, _, _, _, _, _, _, _, _, _, _, _, _, _, _, _, _, _, _, _, _] qs.hl rfl rfl (vf := []) (vc := []) rfl rfl Tryz.call19 rfl (fun w how hc => Zi2 qs V2 2 (.inr hs) _ w hc (by decide) (clS (WG xd xr x1 x2 x3 xt xc) c9) bp (Wl (A := [_, _, _, _, _, _, _, _, _, _, _, _, _, _, _, _, _, _, _, _, _, _, _, _, _, _, _, _, _, _, _]) how 23 25 26 rfl rfl rfl hp2.nd hp2.ns hp2.nc) ⟨1, -1, 1⟩ [] [] none none 0 0 (by decide) (by decide) (XN _ _ _) (XN _ _ _)) ?_)
      rintro v9 T9 hput
      obtain ⟨rfl, rfl⟩ := Zlj hs h9 (by kernel_rfl) (by kernel_rfl) hput
      refine Zb 7 rfl rfl (Zz 0 rfl) (Ze (ZP rfl rfl)) (Zv (fun h100 => ?_) (fun h100 => ?_))
      · exact absurd rfl h100
      refine Zb 8 rfl rfl (Zz 0 rfl) (Ze (Zi rfl)) ?_
      refine Zm 9 rfl rfl rfl rfl rfl (Zz 0 rfl) (Ze (Zi rfl)) ?_
      refine Zm 10 rfl rfl rfl rfl rfl (Zz 0 rfl) (Ze (Zi rfl)) ?_
      refine Zm 11 rfl rfl rfl rfl rfl (Zz 0 rfl) (Ze (ZP rfl rfl)) (Zv (fun h104 => ?_) (fun h104 => ?_))
      · exact absurd rfl h104
      refine Zb 12 rfl rfl (Zz 0 rfl) (Ze (Zo rfl rfl)) ?_
      refine Zb 13 rfl rfl (Zz 0 rfl) (Ze (Zi rfl)) ?_
      refine Zm 14 rfl rfl rfl rfl rfl (Zz 0 rfl) (Ze (Zi rfl)) ?_
      refine Zm 15 rfl rfl rfl rfl rfl (Zz 0 rfl) (Ze (Z2 Tryz.underlying53 YY rfl rfl (by omega) (by omega))) ?_
      refine Zm 16 rfl rfl rfl rfl rfl (Zz 0 rfl) (Ze (Zh Tryz.underlying36 rfl rfl (by exact Zq 3 rfl rfl))) ?_
      refine Zm 17 rfl rfl rfl rfl rfl (Zz 0 rfl) (Ze (Zr Tryz.underlying23 rfl YB rfl (by exact ZH 2 (off := 0) (k := 3) rfl rfl) rfl)) ?_
      refine Zm 19 rfl rfl rfl rfl rfl (Zz 0 rfl) (Ze (Zi rfl)) ?_
      refine XE 18 rfl rfl rfl rfl (.inr (Zz 0 rfl)) (Z6 [_, _, _, _, _, _, _, _, _, _, _, _, _, _, _, _, _, _, _, _, _, _, _, _, _, _, _, _, _, _, _] qs.hl rfl rfl (vf := []) (vc := []) rfl rfl Tryz.call20 rfl (fun w how hc => Zhf qs V2 2 (.inr hs) _ w hc (by decide) (clS (WG xd xr x1 x2 x3 xt xc) c9) bp (Wl (A := [_, _, _, _, _, _, _, _, _, _, _, _, _, _, _, _, _, _, _, _, _, _, _, _, _, _, _, _, _, _, _]) how 23 25 26 rfl rfl rfl hp2.nd hp2.ns hp2.nc) ⟨1, -1, 1⟩) ?_)
      rintro v8 T8 hput
      obtain ⟨rfl, rfl⟩ := Zfu hs h9 (by kernel_rfl) hput
      refine Zm 20 rfl rfl rfl rfl rfl (Zz 0 rfl) (Ze (ZP rfl rfl)) (Zv (fun h113 => ?_) (fun h113 => ?_))
      · exact absurd rfl h113
      refine Zb 21 rfl rfl (Zz 0 rfl) (Ze (Zo rfl rfl)) ?_
      refine Zb 22 rfl rfl (Zz 0 rfl) (Ze (Zi rfl)) ?_
      refine Zm 23 rfl rfl rfl rfl rfl (Zz 0 rfl) (Ze (Zi rfl)) ?_
      refine Zm 24 rfl rfl rfl rfl rfl (Zz 0 rfl) (Ze (Z2 Tryz.underlying53 YY rfl rfl (by omega) (by omega))) ?_
      refine Zm 25 rfl rfl rfl rfl rfl (Zz 0 rfl) (Ze (Zh Tryz.underlying36 rfl rfl (by exact Zq 3 rfl rfl))) ?_
      refine Zm 27 rfl rfl rfl rfl rfl (Zz 0 rfl) (Ze (Zi rfl)) ?_
      refine XE 26 rfl rfl rfl rfl (.inr (Zz 0 rfl)) (Z6 [_, _, _, _, _, _, _, _, _, _, _, _, _, _, _, _, _, _, _, _, _, _, _, _, _, _, _, _, _, _, _] qs.hl rfl rfl (vf := []) (vc := []) rfl rfl Tryz.call21 rfl (fun w how hc => Zle qs V2 2 (clS (WG xd xr x1 x2 x3 xt xc) c9) ([], []) (.inr hs) _ w hc (by decide) bp (Wl (A := [_, _, _, _, _, _, _, _, _, _, _, _, _, _, _, _, _, _, _, _, _, _, _, _, _, _, _, _, _, _, _]) how 23 25 26 rfl rfl rfl hp2.nd hp2.ns hp2.nc) 1 1) ?_)
      rintro v7 T7 hput
      obtain ⟨rfl, rfl⟩ := Zhp h9 ⟨by decide, by decide, by decide, by decide⟩ hput
      refine Zm 28 rfl rfl rfl rfl rfl (Zz 0 rfl) (Ze (ZP rfl rfl)) (Zv (fun h121 => ?_) (fun h121 => ?_))
      · exact absurd rfl h121
      refine Zb 29 rfl rfl (Zz 0 rfl) (Ze (Zo rfl rfl)) ?_
      refine Zb 30 rfl rfl (Zz 0 rfl) (Ze (Zi rfl)) ?_
      refine Zm 31 rfl rfl rfl rfl rfl (Zz 0 rfl) (Ze (Zi rfl)) ?_
      refine Zm 32 rfl rfl rfl rfl rfl (Zz 0 rfl) (Ze (ZG Tryz.underlying56 rfl)) ?_
      refine Zm 33 rfl rfl rfl rfl rfl (Zz 0 rfl) (Ze (Zi rfl)) ?_
      refine Zm 34 rfl rfl rfl rfl rfl (Zz 0 rfl) (Ze (ZG Tryz.underlying56 rfl)) ?_
      refine Zm 35 rfl rfl rfl rfl rfl (Zz 0 rfl) (Ze (by exact ZN rfl rfl (by decide))) ?_
      refine Zm 36 rfl rfl rfl rfl rfl (Zz 0 rfl) (Ze (ZP rfl rfl)) (Zv (fun h129 => ?_) (fun h129 => ?_))
      · exact absurd rfl h129
      refine Zb 37 rfl rfl (Zz 0 rfl) (Ze (Zo rfl rfl)) ?_
      refine Zb 38 rfl rfl (Zz 0 rfl) (Ze (Zi rfl)) ?_
      refine Zm 39 rfl rfl rfl rfl rfl (Zz 0 rfl) (Ze (Zi rfl)) ?_
      refine Zm 40 rfl rfl rfl rfl rfl (Zz 0 rfl) (Ze (Zi rfl)) ?_
      refine Zm 41 rfl rfl rfl rfl rfl (Zz 0 rfl) (Ze (ZP rfl rfl)) (Zv (fun h134 => ?_) (fun h134 => ?_))
      · exact absurd rfl h134
      refine Zb 42 rfl rfl (Zz 0 rfl) (Ze (Zo rfl rfl)) ?_
      refine Zb 43 rfl rfl (Zz 0 rfl) (Ze (Zi rfl)) ?_
      refine Zm 44 rfl rfl rfl rfl rfl (Zz 0 rfl) (Ze (Zi rfl)) ?_
      refine Zm 45 rfl rfl rfl rfl rfl (Zz 0 rfl) (Ze (Zi rfl)) ?_
      refine Zm 46 rfl rfl rfl rfl rfl (Zz 0 rfl) (Ze (ZP rfl rfl)) (Zv (fun h139 => ?_) (fun h139 => ?_))
      · exact absurd rfl h139
      refine Zb 47 rfl rfl (Zz 0 rfl) (Ze (Zo rfl rfl)) ?_
      refine ZR (.inr (Zz 0 rfl)) ?_
      refine Zf <| Zk rfl <| Zx <| ZM <| Zf <| Za <| gm rfl rfl <| gr rfl (by exact ZN (b := 1) rfl rfl (by omega)) ?_
      refine gas rfl rfl <| ZW <| Zf ?_
      exact Z1 (2 + 1) ⟨by omega, by omega⟩ ⟨rfl, rfl, rfl, rfl, rfl, rfl, trivial⟩ (ZJ (A := [_, _, _, _, _, _, _, _, _, _, _, _, _, _, _, _, _, _, _, _, _, _, _, _, _, _]) (B := [_, _, _, _, _, _, _, _, _, _, _, _, _, _, _, _, _, _, _, _, _, _, _, _, _, _, _, _, _, _, _]) (T := qs.hl) [1, 2, 3, 4, 5, 6, 7, 8, 9, 10, 11, 12, 13, 14, 15, 16, 17, 18, 19, 20, 21, 22, 23, 24, 25, 26] 31 (by decide) (by decide) rfl rfl)
    exact absurd rfl h68
  refine gA <| Zk rfl <| Z4 <| Zw <| Zw <| ZK <| Zf <| Zc <| Za <| gm rfl rfl <| Zn (ZD rfl (vf := []) (vc := []) rfl rfl Tryz.call13 (fun w1 ho => Zdi w1) ?_)
  rintro _ _ ⟨ze, zd, zr, z1, z2, z3, zt, zc, rfl, rfl⟩
  refine Zn (Z6 [_, _, _, _, _, _, _, _, _, _, _, _, _, _, _, _, _, _, _, _, _, _, _, _, _, _, _, _, _, _, _, _, _, _] qs.hl rfl rfl (vf := []) (vc := []) rfl rfl Tryz.call12 rfl (fun w how hc => Zms qs hs _ w hc (WG zd zr z1 z2 z3 zt zc) Zdv Zb0 (Zdw (how.rowSlT (A := [_, _, _, _, _, _, _, _, _, _, _, _, _, _, _, _, _, _, _, _, _, _, _, _, _, _, _, _, _, _, _, _, _, _]) 7 rfl) (how.rowSlT (A := [_, _, _, _, _, _, _, _, _, _, _, _, _, _, _, _, _, _, _, _, _, _, _, _, _, _, _, _, _, _, _, _, _, _]) 6 rfl) (how.rowSlT (A := [_, _, _, _, _, _, _, _, _, _, _, _, _, _, _, _, _, _, _, _, _, _, _, _, _, _, _, _, _, _, _, _, _, _]) 2 rfl) (how.rowSlT (A := [_, _, _, _, _, _, _, _, _, _, _, _, _, _, _, _, _, _, _, _, _, _, _, _, _, _, _, _, _, _, _, _, _, _]) 1 rfl) (how.rowSlT (A := [_, _, _, _, _, _, _, _, _, _, _, _, _, _, _, _, _, _, _, _, _, _, _, _, _, _, _, _, _, _, _, _, _, _]) 5 rfl) (how.rowSlT (A := [_, _, _, _, _, _, _, _, _, _, _, _, _, _, _, _, _, _, _, _, _, _, _, _, _, _, _, _, _, _, _, _, _, _]) 4 rfl) (how.rowSlT (A := [_, _, _, _, _, _, _, _, _, _, _, _, _, _, _, _, _, _, _, _, _, _, _, _, _, _, _, _, _, _, _, _, _, _]) 3 rfl))) ?_)
  rintro _ _ ⟨rfl, rfl⟩
  rw [h9]
  refine gm rfl rfl <| gr rfl (Zp rfl rfl) <| gr rfl (Zp rfl rfl) <| gas rfl rfl <| gas rfl rfl <| gA <| Zc <| Za <| gm rfl rfl <| gr rfl (Yr rfl rfl) (Zv (fun h148 => ?_) (fun h148 => ?_))
  · refine gm rfl rfl <| Zl rfl rfl (Zs rfl (Z2 Tryz.underlying53 YY rfl rfl (by omega) (by omega)) ?_)
    refine Zl rfl rfl (Zs rfl (Zh Tryz.underlying36 rfl rfl (by exact Zq 10 rfl rfl)) ?_)
    refine Zl rfl rfl <| Zs rfl (Zd rfl (fa_28_1 _)) <| Zl rfl rfl (Zs rfl (Zr Tryz.underlying23 rfl YB rfl (by exact ZH 29 (off := 1) (k := 3) rfl rfl) rfl) ?_)
    refine Zl rfl rfl <| Zs rfl (Zd rfl (Zh3 _)) <| Zl rfl rfl (Zs rfl (Zr Tryz.underlying26 rfl ZZ rfl (by exact ZH 29 (off := 4) (k := 2) rfl rfl) rfl) ?_)
    refine Zl rfl rfl (ZD rfl (vf := []) (vc := []) rfl rfl Tryz.call19 (fun w1 ho => Zfw none w1 (.inl rfl) a.x a.a1 a.a2 a.ss.length a.cs.length a.c1 a.c2) ?_)
    rintro _ _ ⟨rfl, rfl⟩
    refine Zl rfl rfl (Zs rfl (Yr rfl rfl) (Zv (fun h157 => ?_) (fun h157 => ?_)))
    · refine gr rfl (ZE rfl rfl) <| gm rfl rfl <| Zl rfl rfl (ZD rfl (vf := []) (vc := []) rfl rfl Tryz.call10 (fun w1 ho => Zho w1) ?_)
      rintro _ _ ⟨rfl, rfl⟩
      refine gr rfl (ZE rfl rfl) <| gas rfl rfl <| gA <| Zt <| Z0 (.inl rfl) Tryz.results3 rfl (Zi4 _) ?_
      exact ⟨rfl, rfl⟩
    exact absurd rfl h157
  exact absurd rfl h148
end Go.Proofs.YthcbcdjkfefnlaaGreatDoor
