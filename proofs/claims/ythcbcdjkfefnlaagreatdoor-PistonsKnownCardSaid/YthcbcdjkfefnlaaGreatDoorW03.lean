import Derived.Test.YthcbcdjkfefnlaaGreatDoorW02
import Derived.Test.YthcbcdjkfefnlaaGreatDoorW00
/- A part of the proof: walks of the program. -/
set_option autoImplicit false
set_option linter.unusedSimpArgs false
set_option linter.unusedVariables false
set_option linter.unnecessarySimpa false
set_option maxRecDepth 100000
set_option maxHeartbeats 8000000
namespace Go.Proofs.YthcbcdjkfefnlaaGreatDoor
open Go.Gv
open Go.RowKit
open Iv
theorem Zh2 (f : Fl) (hf : f.Ok) (bs bf : Nat) (rb : Option Nat) (cb : Nat) (rp : Option Nat) (cp : Nat) (id num : Nat) (mv : Option Nat) (free but : Int) (S : List Nat) (w0 : World) (hown : Own w0 S w0 (.blk bs [.bool true, .pointer (some ⟨bf, 0, none⟩), natV id, .map mv, .int .u32 (num : Nat), .int .i64 free] 138 :: FlH bf rb cb rp cp f)) (hnum : num < 4294967296) : Sp Tryz.prog 70 [.pointer (some ⟨bs, 0, none⟩), .int .i64 but] w0 S (fun v L => ∃ (bm : Nat) (m : List (ME He)) (nb : Nat) (T : List HL) (num2 : Nat), v = .tuple #[] ∧ MSt m nb T ∧ (num2, plain m) = WC f.b but num ∧ num2 < 4294967296 ∧ L = (.blk bs [.bool true, .pointer (some ⟨bf, 0, none⟩), natV id, .map (some bm), .int .u32 ((num2 : Nat) : Int), .int .i64 free] 138 :: .obj bm (Xo HV m nb) :: (FlH bf rb cb rp cp f ++ T))) := by
  have hbl := hf.hi
  have hbl0 := hf.lo
  have hblm := hf.len
  obtain ⟨gb, rfl, hcb⟩ := JJ (hown.holds (.row 5 1 rb f.b.length cb (f.b.map u8V)) (by simp)) (by omega)
  refine ZA Tryz.func70 rfl Tryz.ntmps70 rfl hown ?_
  simp only [ZT]
  refine Zb <| Za <| gm rfl rfl <| Zl (Zct rfl (fun b12 => ?_))
  refine gnc rfl rfl <| gr rfl (Zd rfl (Yj _)) <| Zl (Z7 1 ty_135 rfl rfl rfl rfl rfl (by rfl) (by rfl) ?_)
  refine gA <| Zb <| Za <| gm rfl rfl <| gnc rfl rfl <| gr rfl (Zd rfl (Xp _)) <| gr rfl (Zh Tryz.underlying32 rfl rfl (by exact Zo 1 rfl rfl)) ?_
  refine Zl (ZD rfl (vf := []) (vc := []) rfl rfl Tryz.call41 (fun w1 ho => VT f hf bf (some gb) cb rp cp w1 (ho.blkCells 2 rfl)) ?_)
  rintro _ _ ⟨rfl, rfl⟩
  refine gm rfl rfl <| gA <| ZC <| Z0 (ι := Nat × Nat × List (ME He) × Nat × List HL) [(0, _), (1, _), (19, _)] [_, _, _] (fun j => j.1 ≤ f.b.length / 256 ∧ MSt j.2.2.1 j.2.2.2.1 j.2.2.2.2 ∧ (j.2.1, plain j.2.2.1) = Zdb f.b but num j.1 ∧ j.2.1 < 4294967296) (fun j Fr0 => ((20, natV j.1) :: Fr0)) (fun j Fr0 => (.blk bs [.bool true, .pointer (some ⟨bf, 0, none⟩), natV id, .map (some b12), .int .u32 ((j.2.1 : Nat) : Int), .int .i64 free] 138 :: .obj b12 (Xo HV j.2.2.1 j.2.2.2.1) :: (Fr0 ++ j.2.2.2.2))) (fun j => f.b.length / 256 - j.1) (0, num, [], 0, []) (⟨Nat.zero_le _, mst_nil _, rfl, hnum⟩) ⟨rfl, rfl, rfl, rfl, trivial⟩ ⟨[1, 0, 2, 3, 4], by decide, rfl⟩ ?_
  rintro ⟨j, nu, m, nb, T⟩ ⟨hj, hms, hsc, hnu⟩
  simp only at hj hms hsc hnu ⊢
  refine Zb <| Za <| gr rfl (Z2 rfl rfl) (Zx (fun h21 => ?_) (fun h21 => ?_))
  · obtain ⟨s0, hs0⟩ : ∃ s0, Zdb f.b but num j = s0 := ⟨_, rfl⟩
    rw [hs0] at hsc
    have hsc0 := hs0.symm
    refine gA <| Zb <| Zj rfl <| Zu <| Ze <| Zb <| ZC <| Zb <| Za <| gm rfl rfl <| gas rfl rfl <| gA <| Zb <| Za <| gm rfl rfl <| gA <| ZC <| Z0 (ι := Nat × Nat × List (ME He) × Nat × List HL) [(0, _), (1, _), (4, _), (19, _), (20, _)] [_, _, _] (fun i => i.1 ≤ 10 ∧ MSt i.2.2.1 i.2.2.2.1 i.2.2.2.2 ∧ (i.2.1, plain i.2.2.1) = XY f.b but j s0 i.1 ∧ i.2.1 < 4294967296) (fun i Fr0 => ((23, natV i.1) :: Fr0)) (fun i Fr0 => (.blk bs [.bool true, .pointer (some ⟨bf, 0, none⟩), natV id, .map (some b12), .int .u32 ((i.2.1 : Nat) : Int), .int .i64 free] 138 :: .obj b12 (Xo HV i.2.2.1 i.2.2.2.1) :: (Fr0 ++ i.2.2.2.2))) (fun i => 10 - i.1) (0, nu, m, nb, T) (⟨Nat.zero_le _, hms, hsc, hnu⟩) ⟨rfl, rfl, rfl, rfl, rfl, rfl, trivial⟩ (Yo 0 rfl) ?_
    rintro ⟨q, nu, m, nb, T⟩ ⟨hq, hms, hsc, hnu⟩
    simp only at hq hms hsc hnu ⊢
    refine Zb <| Za <| gr rfl (Z2 rfl rfl) (Zx (fun h24 => ?_) (fun h24 => ?_))
    · obtain ⟨zs, hzs⟩ : ∃ zs, slotB f.b j q = zs := ⟨_, rfl⟩
      have hzl : zs.length = 24 := by rw [← hzs]; exact WD (by omega)
      have hz8 : ∀ z ∈ zs, z < 256 := by rw [← hzs]; exact Wz hf.bs j q
      rcases hbd : X1 zs with _ | _
      · refine gA <| Zb <| Zj rfl <| Zu <| Ze <| Zb <| ZC <| Zb <| Za <| gm rfl rfl <| gas rfl rfl <| gA <| Zb <| Za <| gm rfl rfl <| gm rfl rfl <| gr rfl (ZJ rfl (fun _ => W8 _ _)) ?_
        refine Zl (ZN Ya rfl rfl (fun b6 => ?_))
        refine Zl (Zy 0 Ya rfl rfl rfl rfl rfl rfl (by rfl) ?_)
        refine gA <| Zb <| ZP [0, 1, 2, 3, 4, 5] false 12 rfl <| Zc 0 rfl rfl ⟨[0, 1, 2, 3, 4, 5], by decide, rfl⟩ (Zf (Zm rfl)) ?_
        refine Zc 1 rfl rfl ⟨[0, 1, 2, 3, 4, 5], by decide, rfl⟩ (Zf (ZI rfl)) ?_
        refine Zc 2 rfl rfl ⟨[0, 1, 2, 3, 4, 5], by decide, rfl⟩ (Zf (Zd rfl (Xp _))) ?_
        refine Zc 3 rfl rfl ⟨[0, 1, 2, 3, 4, 5], by decide, rfl⟩ (Zf (Zh Tryz.underlying32 rfl rfl (by exact Zo 1 rfl rfl))) ?_
        refine Zc 4 rfl rfl ⟨[0, 1, 2, 3, 4, 5], by decide, rfl⟩ (Zf (Zt Tryz.underlying182 rfl Ya rfl (by exact ZH 0 (off := 0) (k := 2) rfl rfl) rfl)) ?_
        refine Zc 5 rfl rfl ⟨[0, 1, 2, 3, 4, 5], by decide, rfl⟩ (YC (vf := []) (vc := []) rfl rfl Tryz.call108 (fun w1 ho => Zev f hf bf gb cb rp cp w1 (ho.blkCells 3 rfl) hcb j q (by omega)) (by rintro _ _ ⟨h, _⟩; exact h)) ?_
        refine Zdx 6 10 (Gv.bm 13 127) (Gv.bm 13 1087) rfl rfl rfl rfl (by kernel_rfl) (by kernel_rfl) (by kernel_rfl) (.inr ⟨[0, 1, 2, 3, 4, 5], by decide, rfl⟩) ?_ ?_
        · refine (ZD rfl (vf := []) (vc := []) rfl rfl Tryz.call107 (fun w1 ho => JO zs hz8 hzl (some ⟨gb, j * 256 + q * 24, none⟩) (cb - (j * 256 + q * 24)) (by omega) w1 (by rw [← hzs]; unfold slotB; rw [← Vu]; exact Zaq (ho.rowSl 4 rfl) (j * 256 + q * 24) 24 (by omega)) hbd) ?_)
          rintro _ _ ⟨rx, cx, rfl, rfl⟩
          refine Zc 7 rfl rfl ⟨[1, 2, 3, 4, 5, 6], by decide, rfl⟩ (Zf (Zm rfl)) ?_
          refine Zc 8 rfl rfl ⟨[1, 2, 3, 4, 5, 6], by decide, rfl⟩ (Zf (Zv rfl rfl)) ?_
          refine Zc 9 rfl rfl ⟨[1, 2, 3, 4, 5, 6], by decide, rfl⟩ (Zf (Zv rfl rfl)) ?_
          refine ZG 10 rfl (.inr ⟨[1, 2, 3, 4, 5, 6], by decide, rfl⟩) (ZN Z6 rfl rfl (fun b7 => ?_))
          refine ZG 11 rfl (.inr ⟨[2, 3, 4, 5, 6, 7], by decide, rfl⟩) (Zy 0 Z6 rfl rfl rfl rfl rfl rfl (by rfl) ?_)
          refine ZG 12 rfl (.inr ⟨[2, 3, 4, 5, 6, 7], by decide, rfl⟩) (Zn rfl (ZV rfl) ?_)
          refine ZS (.inl (by kernel_rfl)) ?_
          refine Ze <| Zb <| Zb <| Za <| gm rfl rfl <| gr rfl (rd_not rfl) <| gm rfl rfl <| Zi rfl rfl <| Zn rfl (Zm rfl) <| Zi rfl rfl <| Zn rfl (Zm rfl) <| Zi rfl rfl (Zn rfl (Yt rfl rfl) (Zx (fun h44 => ?_) (fun h44 => ?_)))
          · refine gr rfl (Zq rfl rfl) <| gA <| Zj rfl <| Z1 <| Zr <| ZE <| Ze <| Za <| gr rfl (by exact ZQ (b := 1) rfl rfl (by omega)) ?_
            refine gm rfl rfl <| ZU <| Ze ?_
            exact ZZ ((q + 1, nu, m, nb, T)) ⟨⟨by simp only; omega, hms, by simp only; rw [YS, ← hsc, Vw (.inr h44)], hnu⟩, by simp only; omega⟩ ⟨rfl, rfl, rfl, rfl, rfl, rfl, trivial⟩ (Yo 3 rfl)
          have hn4 : numTo zs 4 < 4294967296 := Zhy hz8 (Nat.le_refl 4)
          have heo : EnOk ⟨keyP zs, numTo zs 4, YR zs, j, q⟩ := by have := Zln hf.bs (bk := j) (sl := q) (by omega) (by omega) (by omega) (by rw [hzs]; exact hbd); unfold enB at this; rw [hzs] at this; exact this
          refine gr rfl (Zq rfl rfl) <| gA <| Zk rfl <| Zu <| Ze <| Zb <| ZP [0, 1, 2, 3, 4, 5, 6, 7] false 10 rfl <| Zc 0 rfl rfl ⟨[0, 1, 2, 3, 4, 5, 6, 7], by decide, rfl⟩ (Zf (Zm rfl)) ?_
          refine Zc 1 rfl rfl ⟨[0, 1, 2, 3, 4, 5, 6, 7], by decide, rfl⟩ (Zf (Zm rfl)) ?_
          refine Zc 2 rfl rfl ⟨[0, 1, 2, 3, 4, 5, 6, 7], by decide, rfl⟩ (Zf (ZI rfl)) ?_
          refine Zc 3 rfl rfl ⟨[0, 1, 2, 3, 4, 5, 6, 7], by decide, rfl⟩ (Zf (Zd rfl (Yr _))) ?_
          refine Zc 4 rfl rfl ⟨[0, 1, 2, 3, 4, 5, 6, 7], by decide, rfl⟩ (Zf (Zh Tryz.underlying136 rfl rfl (by exact Zo 3 rfl rfl))) ?_
          refine Zc 5 rfl rfl ⟨[0, 1, 2, 3, 4, 5, 6, 7], by decide, rfl⟩ (Zf (Zd rfl (Xx _))) ?_
          refine Zc 6 rfl rfl ⟨[0, 1, 2, 3, 4, 5, 6, 7], by decide, rfl⟩ (Zf (Zh Tryz.underlying136 rfl rfl (by exact Zo 0 rfl rfl))) ?_
          refine Zc 7 rfl rfl ⟨[0, 1, 2, 3, 4, 5, 6, 7], by decide, rfl⟩ (Zf (Zmt rfl rfl)) ?_
          refine ZG 8 rfl (.inr ⟨[0, 1, 2, 3, 4, 5, 6, 7], by decide, rfl⟩) (Zn rfl (ZI rfl) ?_)
          refine Zc 9 rfl rfl ⟨[0, 1, 2, 3, 4, 5, 6, 7], by decide, rfl⟩ (Zf (Zd rfl (Yr _))) ?_
          refine ZG 10 rfl (.inr ⟨[0, 1, 2, 3, 4, 5, 6, 7], by decide, rfl⟩) (Z7 3 W7 rfl rfl rfl rfl rfl (by rfl) (by rfl) ?_)
          refine ZS (.inl (by kernel_rfl)) ?_
          refine Ze <| Zb ?_
          rcases hg : XL ((keyP zs : Nat) : Int) m with _ | o
          · refine ZP [0, 1, 2, 3, 4, 5, 6, 7] false 12 rfl <| Zc 0 rfl rfl ⟨[0, 1, 2, 3, 4, 5, 6, 7], by decide, rfl⟩ (Zf (Zm rfl)) ?_
            refine Zc 1 rfl rfl ⟨[0, 1, 2, 3, 4, 5, 6, 7], by decide, rfl⟩ (Zf (ZI rfl)) ?_
            refine Zc 2 rfl rfl ⟨[0, 1, 2, 3, 4, 5, 6, 7], by decide, rfl⟩ (Zf (Zd rfl (Yj _))) ?_
            refine Zc 3 rfl rfl ⟨[0, 1, 2, 3, 4, 5, 6, 7], by decide, rfl⟩ (Zf (Zh Tryz.underlying135 rfl rfl (by exact Zo 3 rfl rfl))) ?_
            refine Zc 4 rfl rfl ⟨[0, 1, 2, 3, 4, 5, 6, 7], by decide, rfl⟩ (Zf (Zd rfl (Y6 _))) ?_
            refine Zc 5 rfl rfl ⟨[0, 1, 2, 3, 4, 5, 6, 7], by decide, rfl⟩ (Zf (Zh Tryz.underlying3 rfl rfl (by exact Zo 0 rfl rfl))) ?_
            refine Zc 6 rfl rfl ⟨[0, 1, 2, 3, 4, 5, 6, 7], by decide, rfl⟩ (Zf (Xc 4 HV rfl Tryz.underlying135 Tryz.underlying3 Yz rfl rfl)) ?_
            refine Zc 7 rfl rfl ⟨[0, 1, 2, 3, 4, 5, 6, 7], by decide, rfl⟩ (Zf (Zm rfl)) ?_
            refine Zc 8 rfl rfl ⟨[0, 1, 2, 3, 4, 5, 6, 7], by decide, rfl⟩ (Zf (Zv rfl rfl)) ?_
            refine Zc 9 rfl rfl ⟨[0, 1, 2, 3, 4, 5, 6, 7], by decide, rfl⟩ (Zf (Zv rfl rfl)) ?_
            refine ZG 10 rfl (.inr ⟨[0, 1, 2, 3, 4, 5, 6, 7], by decide, rfl⟩) (ZN Yz rfl rfl (fun b9 => ?_))
            rw [hg, Option.map_none, Option.getD_none, Option.isSome_none]
            refine ZG 11 rfl (.inr ⟨[1, 2, 3, 4, 5, 6, 7, 8], by decide, rfl⟩) (Zy 0 Yz rfl rfl rfl rfl rfl rfl (by rfl) ?_)
            refine ZG 12 rfl (.inr ⟨[1, 2, 3, 4, 5, 6, 7, 8], by decide, rfl⟩) (Zn rfl (ZV rfl) ?_)
            refine ZS (.inl (by kernel_rfl)) ?_
            refine Ze <| Zb <| Za <| gm rfl rfl <| gr rfl (rd_not rfl) <| gm rfl rfl <| Zs rfl rfl rfl <| Zs rfl rfl rfl <| Zs rfl rfl rfl <| Zs rfl rfl rfl <| Zs rfl rfl rfl <| Zs rfl rfl rfl <| gr rfl (ZB rfl rfl) <| gA <| Zj rfl <| ZP [0, 1, 2, 3, 4, 5, 6, 7, 8] false 9 rfl <| Zc 0 rfl rfl ⟨[0, 1, 2, 3, 4, 5, 6, 7, 8], by decide, rfl⟩ (Zf (Zm rfl)) ?_
            refine Zc 1 rfl rfl ⟨[0, 1, 2, 3, 4, 5, 6, 7, 8], by decide, rfl⟩ (Zf (ZI rfl)) ?_
            refine Zc 2 rfl rfl ⟨[0, 1, 2, 3, 4, 5, 6, 7, 8], by decide, rfl⟩ (Zf (Zd rfl (Yj _))) ?_
            refine Zc 3 rfl rfl ⟨[0, 1, 2, 3, 4, 5, 6, 7, 8], by decide, rfl⟩ (Zf (Zh Tryz.underlying135 rfl rfl (by exact Zo 4 rfl rfl))) ?_
            refine Zc 4 rfl rfl ⟨[0, 1, 2, 3, 4, 5, 6, 7, 8], by decide, rfl⟩ (Zf (Zd rfl (Y6 _))) ?_
            refine Zc 5 rfl rfl ⟨[0, 1, 2, 3, 4, 5, 6, 7, 8], by decide, rfl⟩ (Zf (Zh Tryz.underlying3 rfl rfl (by exact Zo 1 rfl rfl))) ?_
            refine Zc 6 rfl rfl ⟨[0, 1, 2, 3, 4, 5, 6, 7, 8], by decide, rfl⟩ (Zf (Zt Tryz.underlying184 rfl Z6 rfl (by exact ZH 1 (off := 0) (k := 3) rfl rfl) rfl)) ?_
            refine Zc 7 rfl rfl ⟨[0, 1, 2, 3, 4, 5, 6, 7, 8], by decide, rfl⟩ (Zf (Zt Tryz.underlying182 rfl Ya rfl (by exact ZH 3 (off := 0) (k := 2) rfl rfl) rfl)) ?_
            refine Zc 8 rfl rfl ⟨[0, 1, 2, 3, 4, 5, 6, 7, 8], by decide, rfl⟩ (Zf (ZJ rfl (fun _ => YO _ _ _ _ _ _ _))) ?_
            refine ZG 9 rfl (.inr ⟨[0, 1, 2, 3, 4, 5, 6, 7, 8], by decide, rfl⟩) (YM 5 HV (v := ⟨⟨keyP zs, numTo zs 4, YR zs, j, q⟩, rx, cx⟩) Tryz.underlying135 Tryz.underlying3 rfl rfl rfl rfl rfl ?_)
            refine ZS (.inl (by kernel_rfl)) ?_
            refine ZM <| Ze <| Za <| gr rfl (by exact ZQ (b := 1) rfl rfl (by omega)) ?_
            refine gm rfl rfl <| ZU <| Ze ?_
            have hnw : Y9 ⟨keyP zs, numTo zs 4, YR zs, j, q⟩ (plain m) = true := by unfold Y9; rw [show Yv (En.key ⟨keyP zs, numTo zs 4, YR zs, j, q⟩) (plain m) = none from hms.none hg]
            exact ZZ ((q + 1, max nu (numTo zs 4), XT ((keyP zs : Nat) : Int) ⟨⟨keyP zs, numTo zs 4, YR zs, j, q⟩, rx, cx⟩ nb m, mnb ((keyP zs : Nat) : Int) m nb, He.row ⟨⟨keyP zs, numTo zs 4, YR zs, j, q⟩, rx, cx⟩ :: T)) ⟨⟨by simp only; omega, hms.put ⟨⟨keyP zs, numTo zs 4, YR zs, j, q⟩, rx, cx⟩ heo (fun y hy => List.mem_cons_of_mem _ hy) List.mem_cons_self, by simp only; rw [YS, ← hsc, Wm (by rw [hzs]; exact hbd) h44]; simp only [enB, hzs]; rw [if_pos hnw, XP ⟨⟨keyP zs, numTo zs 4, YR zs, j, q⟩, rx, cx⟩ nb hms.key], Nat.max_lt.2 ⟨hnu, hn4⟩⟩, by simp only; omega⟩ ⟨rfl, rfl, rfl, rfl, rfl, rfl, trivial⟩ (ZL (A := [_, _, _, _, _, _]) (B := [_, _, _, _, _, _, _, _, _]) (T := T) [4, 5, 6, 7, 8, 2] 9 (by decide) (by decide) rfl rfl)
          refine ZP [0, 1, 2, 3, 4, 5, 6, 7] false 12 rfl <| Zc 0 rfl rfl ⟨[0, 1, 2, 3, 4, 5, 6, 7], by decide, rfl⟩ (Zf (Zm rfl)) ?_
          refine Zc 1 rfl rfl ⟨[0, 1, 2, 3, 4, 5, 6, 7], by decide, rfl⟩ (Zf (ZI rfl)) ?_
          refine Zc 2 rfl rfl ⟨[0, 1, 2, 3, 4, 5, 6, 7], by decide, rfl⟩ (Zf (Zd rfl (Yj _))) ?_
          refine Zc 3 rfl rfl ⟨[0, 1, 2, 3, 4, 5, 6, 7], by decide, rfl⟩ (Zf (Zh Tryz.underlying135 rfl rfl (by exact Zo 3 rfl rfl))) ?_
          refine Zc 4 rfl rfl ⟨[0, 1, 2, 3, 4, 5, 6, 7], by decide, rfl⟩ (Zf (Zd rfl (Y6 _))) ?_
          refine Zc 5 rfl rfl ⟨[0, 1, 2, 3, 4, 5, 6, 7], by decide, rfl⟩ (Zf (Zh Tryz.underlying3 rfl rfl (by exact Zo 0 rfl rfl))) ?_
          refine Zc 6 rfl rfl ⟨[0, 1, 2, 3, 4, 5, 6, 7], by decide, rfl⟩ (Zf (Xc 4 HV rfl Tryz.underlying135 Tryz.underlying3 Yz rfl rfl)) ?_
          refine Zc 7 rfl rfl ⟨[0, 1, 2, 3, 4, 5, 6, 7], by decide, rfl⟩ (Zf (Zm rfl)) ?_
          refine Zc 8 rfl rfl ⟨[0, 1, 2, 3, 4, 5, 6, 7], by decide, rfl⟩ (Zf (Zv rfl rfl)) ?_
          refine Zc 9 rfl rfl ⟨[0, 1, 2, 3, 4, 5, 6, 7], by decide, rfl⟩ (Zf (Zv rfl rfl)) ?_
          refine ZG 10 rfl (.inr ⟨[0, 1, 2, 3, 4, 5, 6, 7], by decide, rfl⟩) (ZN Yz rfl rfl (fun b9 => ?_))
          rw [hg, Option.map_some, Option.getD_some, Option.isSome_some]
          refine ZG 11 rfl (.inr ⟨[1, 2, 3, 4, 5, 6, 7, 8], by decide, rfl⟩) (Zy 0 Yz rfl rfl rfl rfl rfl rfl (by rfl) ?_)
          refine ZG 12 rfl (.inr ⟨[1, 2, 3, 4, 5, 6, 7, 8], by decide, rfl⟩) (Zn rfl (ZV rfl) ?_)
          refine ZS (.inl (by kernel_rfl)) ?_
          refine Ze <| Zb <| Za <| gm rfl rfl <| gr rfl (rd_not rfl) <| gm rfl rfl <| Zi rfl rfl <| Zn rfl (Zd rfl (JH _)) <| Zi rfl rfl <| Zn rfl (Zd rfl (Xx _)) <| Zi rfl rfl (Zn rfl (Zh Tryz.underlying136 rfl rfl (by exact Zo 0 rfl rfl)) ?_)
          refine Zi rfl rfl <| Zn rfl (Zd rfl (Xx _)) <| Zi rfl rfl (Zn rfl (Zh Tryz.underlying136 rfl rfl (by exact Zo 1 rfl rfl)) ?_)
          refine Zi rfl rfl (Zn rfl (Z2 rfl rfl) (Zx (fun h74 => ?_) (fun h74 => ?_)))
          · refine gr rfl (Zq rfl rfl) <| gA <| Zj rfl <| ZP [0, 1, 2, 3, 4, 5, 6, 7, 8] false 9 rfl <| Zc 0 rfl rfl ⟨[0, 1, 2, 3, 4, 5, 6, 7, 8], by decide, rfl⟩ (Zf (Zm rfl)) ?_
            refine Zc 1 rfl rfl ⟨[0, 1, 2, 3, 4, 5, 6, 7, 8], by decide, rfl⟩ (Zf (ZI rfl)) ?_
            refine Zc 2 rfl rfl ⟨[0, 1, 2, 3, 4, 5, 6, 7, 8], by decide, rfl⟩ (Zf (Zd rfl (Yj _))) ?_
            refine Zc 3 rfl rfl ⟨[0, 1, 2, 3, 4, 5, 6, 7, 8], by decide, rfl⟩ (Zf (Zh Tryz.underlying135 rfl rfl (by exact Zo 4 rfl rfl))) ?_
            refine Zc 4 rfl rfl ⟨[0, 1, 2, 3, 4, 5, 6, 7, 8], by decide, rfl⟩ (Zf (Zd rfl (Y6 _))) ?_
            refine Zc 5 rfl rfl ⟨[0, 1, 2, 3, 4, 5, 6, 7, 8], by decide, rfl⟩ (Zf (Zh Tryz.underlying3 rfl rfl (by exact Zo 1 rfl rfl))) ?_
            refine Zc 6 rfl rfl ⟨[0, 1, 2, 3, 4, 5, 6, 7, 8], by decide, rfl⟩ (Zf (Zt Tryz.underlying184 rfl Z6 rfl (by exact ZH 1 (off := 0) (k := 3) rfl rfl) rfl)) ?_
            refine Zc 7 rfl rfl ⟨[0, 1, 2, 3, 4, 5, 6, 7, 8], by decide, rfl⟩ (Zf (Zt Tryz.underlying182 rfl Ya rfl (by exact ZH 3 (off := 0) (k := 2) rfl rfl) rfl)) ?_
            refine Zc 8 rfl rfl ⟨[0, 1, 2, 3, 4, 5, 6, 7, 8], by decide, rfl⟩ (Zf (ZJ rfl (fun _ => YO _ _ _ _ _ _ _))) ?_
            refine ZG 9 rfl (.inr ⟨[0, 1, 2, 3, 4, 5, 6, 7, 8], by decide, rfl⟩) (YM 5 HV (v := ⟨⟨keyP zs, numTo zs 4, YR zs, j, q⟩, rx, cx⟩) Tryz.underlying135 Tryz.underlying3 rfl rfl rfl rfl rfl ?_)
            refine ZS (.inl (by kernel_rfl)) ?_
            refine ZM <| Ze <| Za <| gr rfl (by exact ZQ (b := 1) rfl rfl (by omega)) ?_
            refine gm rfl rfl <| ZU <| Ze ?_
            have hnw : Y9 ⟨keyP zs, numTo zs 4, YR zs, j, q⟩ (plain m) = true := by unfold Y9; rw [show Yv (En.key ⟨keyP zs, numTo zs 4, YR zs, j, q⟩) (plain m) = some o.en from (hms.get hg).2.2.2]; exact decide_eq_true (by simp only; omega)
            exact ZZ ((q + 1, max nu (numTo zs 4), XT ((keyP zs : Nat) : Int) ⟨⟨keyP zs, numTo zs 4, YR zs, j, q⟩, rx, cx⟩ nb m, mnb ((keyP zs : Nat) : Int) m nb, He.row ⟨⟨keyP zs, numTo zs 4, YR zs, j, q⟩, rx, cx⟩ :: T)) ⟨⟨by simp only; omega, hms.put ⟨⟨keyP zs, numTo zs 4, YR zs, j, q⟩, rx, cx⟩ heo (fun y hy => List.mem_cons_of_mem _ hy) List.mem_cons_self, by simp only; rw [YS, ← hsc, Wm (by rw [hzs]; exact hbd) h44]; simp only [enB, hzs]; rw [if_pos hnw, XP ⟨⟨keyP zs, numTo zs 4, YR zs, j, q⟩, rx, cx⟩ nb hms.key], Nat.max_lt.2 ⟨hnu, hn4⟩⟩, by simp only; omega⟩ ⟨rfl, rfl, rfl, rfl, rfl, rfl, trivial⟩ (ZL (A := [_, _, _, _, _, _]) (B := [_, _, _, _, _, _, _, _, _]) (T := T) [4, 5, 6, 7, 8, 2] 9 (by decide) (by decide) rfl rfl)
          refine gr rfl (Zq rfl rfl) <| gA <| Zk rfl <| Zu <| ZM <| Ze <| Za <| gr rfl (by exact ZQ (b := 1) rfl rfl (by omega)) ?_
          refine gm rfl rfl <| ZU <| Ze ?_
          have hnw : Y9 ⟨keyP zs, numTo zs 4, YR zs, j, q⟩ (plain m) = false := by unfold Y9; rw [show Yv (En.key ⟨keyP zs, numTo zs 4, YR zs, j, q⟩) (plain m) = some o.en from (hms.get hg).2.2.2]; exact decide_eq_false (by simp only; omega)
          exact ZZ ((q + 1, max nu (numTo zs 4), m, nb, T)) ⟨⟨by simp only; omega, hms, by simp only; rw [YS, ← hsc, Wm (by rw [hzs]; exact hbd) h44]; simp only [enB, hzs]; rw [hnw]; rfl, Nat.max_lt.2 ⟨hnu, hn4⟩⟩, by simp only; omega⟩ ⟨rfl, rfl, rfl, rfl, rfl, rfl, trivial⟩ (Yo 4 rfl)
        refine (ZN Z6 rfl rfl (fun b7 => ?_))
        refine ZG 6 rfl (.inr ⟨[1, 2, 3, 4, 5, 6], by decide, rfl⟩) (ZD rfl (vf := []) (vc := []) rfl rfl Tryz.call107 (fun w1 ho => JO zs hz8 hzl (some ⟨gb, j * 256 + q * 24, none⟩) (cb - (j * 256 + q * 24)) (by omega) w1 (by rw [← hzs]; unfold slotB; rw [← Vu]; exact Zaq (ho.rowSl 5 rfl) (j * 256 + q * 24) 24 (by omega)) hbd) ?_)
        rintro _ _ ⟨rx, cx, rfl, rfl⟩
        refine Zc 7 rfl rfl ⟨[2, 3, 4, 5, 6, 7], by decide, rfl⟩ (Zf (Zm rfl)) ?_
        refine Zc 8 rfl rfl ⟨[2, 3, 4, 5, 6, 7], by decide, rfl⟩ (Zf (Zv rfl rfl)) ?_
        refine Zc 9 rfl rfl ⟨[2, 3, 4, 5, 6, 7], by decide, rfl⟩ (Zf (Zv rfl rfl)) ?_
        refine ZG 11 rfl (.inr ⟨[2, 3, 4, 5, 6, 7], by decide, rfl⟩) (Zy 1 Z6 rfl rfl rfl rfl rfl rfl (by rfl) ?_)
        refine ZG 12 rfl (.inr ⟨[2, 3, 4, 5, 6, 7], by decide, rfl⟩) (Zn rfl (ZV rfl) ?_)
        refine ZS (.inl (by kernel_rfl)) ?_
        refine Ze <| Zb <| Zb <| Za <| gm rfl rfl <| gr rfl (rd_not rfl) <| gm rfl rfl <| Zi rfl rfl <| Zn rfl (Zm rfl) <| Zi rfl rfl <| Zn rfl (Zm rfl) <| Zi rfl rfl (Zn rfl (Yt rfl rfl) (Zx (fun h44 => ?_) (fun h44 => ?_)))
        · refine gr rfl (Zq rfl rfl) <| gA <| Zj rfl <| Z1 <| Zr <| ZE <| Ze <| Za <| gr rfl (by exact ZQ (b := 1) rfl rfl (by omega)) ?_
          refine gm rfl rfl <| ZU <| Ze ?_
          exact ZZ ((q + 1, nu, m, nb, T)) ⟨⟨by simp only; omega, hms, by simp only; rw [YS, ← hsc, Vw (.inr h44)], hnu⟩, by simp only; omega⟩ ⟨rfl, rfl, rfl, rfl, rfl, rfl, trivial⟩ (Yo 3 rfl)
        have hn4 : numTo zs 4 < 4294967296 := Zhy hz8 (Nat.le_refl 4)
        have heo : EnOk ⟨keyP zs, numTo zs 4, YR zs, j, q⟩ := by have := Zln hf.bs (bk := j) (sl := q) (by omega) (by omega) (by omega) (by rw [hzs]; exact hbd); unfold enB at this; rw [hzs] at this; exact this
        refine gr rfl (Zq rfl rfl) <| gA <| Zk rfl <| Zu <| Ze <| Zb <| ZP [0, 1, 2, 3, 4, 5, 6, 7] false 10 rfl <| Zc 0 rfl rfl ⟨[0, 1, 2, 3, 4, 5, 6, 7], by decide, rfl⟩ (Zf (Zm rfl)) ?_
        refine Zc 1 rfl rfl ⟨[0, 1, 2, 3, 4, 5, 6, 7], by decide, rfl⟩ (Zf (Zm rfl)) ?_
        refine Zc 2 rfl rfl ⟨[0, 1, 2, 3, 4, 5, 6, 7], by decide, rfl⟩ (Zf (ZI rfl)) ?_
        refine Zc 3 rfl rfl ⟨[0, 1, 2, 3, 4, 5, 6, 7], by decide, rfl⟩ (Zf (Zd rfl (Yr _))) ?_
        refine Zc 4 rfl rfl ⟨[0, 1, 2, 3, 4, 5, 6, 7], by decide, rfl⟩ (Zf (Zh Tryz.underlying136 rfl rfl (by exact Zo 3 rfl rfl))) ?_
        refine Zc 5 rfl rfl ⟨[0, 1, 2, 3, 4, 5, 6, 7], by decide, rfl⟩ (Zf (Zd rfl (Xx _))) ?_
        refine Zc 6 rfl rfl ⟨[0, 1, 2, 3, 4, 5, 6, 7], by decide, rfl⟩ (Zf (Zh Tryz.underlying136 rfl rfl (by exact Zo 1 rfl rfl))) ?_
        refine Zc 7 rfl rfl ⟨[0, 1, 2, 3, 4, 5, 6, 7], by decide, rfl⟩ (Zf (Zmt rfl rfl)) ?_
        refine ZG 8 rfl (.inr ⟨[0, 1, 2, 3, 4, 5, 6, 7], by decide, rfl⟩) (Zn rfl (ZI rfl) ?_)
        refine Zc 9 rfl rfl ⟨[0, 1, 2, 3, 4, 5, 6, 7], by decide, rfl⟩ (Zf (Zd rfl (Yr _))) ?_
        refine ZG 10 rfl (.inr ⟨[0, 1, 2, 3, 4, 5, 6, 7], by decide, rfl⟩) (Z7 3 W7 rfl rfl rfl rfl rfl (by rfl) (by rfl) ?_)
        refine ZS (.inl (by kernel_rfl)) ?_
        refine Ze <| Zb ?_
        rcases hg : XL ((keyP zs : Nat) : Int) m with _ | o
        · refine ZP [0, 1, 2, 3, 4, 5, 6, 7] false 12 rfl <| Zc 0 rfl rfl ⟨[0, 1, 2, 3, 4, 5, 6, 7], by decide, rfl⟩ (Zf (Zm rfl)) ?_
          refine Zc 1 rfl rfl ⟨[0, 1, 2, 3, 4, 5, 6, 7], by decide, rfl⟩ (Zf (ZI rfl)) ?_
          refine Zc 2 rfl rfl ⟨[0, 1, 2, 3, 4, 5, 6, 7], by decide, rfl⟩ (Zf (Zd rfl (Yj _))) ?_
          refine Zc 3 rfl rfl ⟨[0, 1, 2, 3, 4, 5, 6, 7], by decide, rfl⟩ (Zf (Zh Tryz.underlying135 rfl rfl (by exact Zo 3 rfl rfl))) ?_
          refine Zc 4 rfl rfl ⟨[0, 1, 2, 3, 4, 5, 6, 7], by decide, rfl⟩ (Zf (Zd rfl (Y6 _))) ?_
          refine Zc 5 rfl rfl ⟨[0, 1, 2, 3, 4, 5, 6, 7], by decide, rfl⟩ (Zf (Zh Tryz.underlying3 rfl rfl (by exact Zo 1 rfl rfl))) ?_
          refine Zc 6 rfl rfl ⟨[0, 1, 2, 3, 4, 5, 6, 7], by decide, rfl⟩ (Zf (Xc 4 HV rfl Tryz.underlying135 Tryz.underlying3 Yz rfl rfl)) ?_
          refine Zc 7 rfl rfl ⟨[0, 1, 2, 3, 4, 5, 6, 7], by decide, rfl⟩ (Zf (Zm rfl)) ?_
          refine Zc 8 rfl rfl ⟨[0, 1, 2, 3, 4, 5, 6, 7], by decide, rfl⟩ (Zf (Zv rfl rfl)) ?_
          refine Zc 9 rfl rfl ⟨[0, 1, 2, 3, 4, 5, 6, 7], by decide, rfl⟩ (Zf (Zv rfl rfl)) ?_
          refine ZG 10 rfl (.inr ⟨[0, 1, 2, 3, 4, 5, 6, 7], by decide, rfl⟩) (ZN Yz rfl rfl (fun b9 => ?_))
          rw [hg, Option.map_none, Option.getD_none, Option.isSome_none]
          refine ZG 11 rfl (.inr ⟨[1, 2, 3, 4, 5, 6, 7, 8], by decide, rfl⟩) (Zy 0 Yz rfl rfl rfl rfl rfl rfl (by rfl) ?_)
          refine ZG 12 rfl (.inr ⟨[1, 2, 3, 4, 5, 6, 7, 8], by decide, rfl⟩) (Zn rfl (ZV rfl) ?_)
          refine ZS (.inl (by kernel_rfl)) ?_
          refine Ze <| Zb <| Za <| gm rfl rfl <| gr rfl (rd_not rfl) <| gm rfl rfl <| Zs rfl rfl rfl <| Zs rfl rfl rfl <| Zs rfl rfl rfl <| Zs rfl rfl rfl <| Zs rfl rfl rfl <| Zs rfl rfl rfl <| gr rfl (ZB rfl rfl) <| gA <| Zj rfl <| ZP [0, 1, 2, 3, 4, 5, 6, 7, 8] false 9 rfl <| Zc 0 rfl rfl ⟨[0, 1, 2, 3, 4, 5, 6, 7, 8], by decide, rfl⟩ (Zf (Zm rfl)) ?_
          refine Zc 1 rfl rfl ⟨[0, 1, 2, 3, 4, 5, 6, 7, 8], by decide, rfl⟩ (Zf (ZI rfl)) ?_
          refine Zc 2 rfl rfl ⟨[0, 1, 2, 3, 4, 5, 6, 7, 8], by decide, rfl⟩ (Zf (Zd rfl (Yj _))) ?_
          refine Zc 3 rfl rfl ⟨[0, 1, 2, 3, 4, 5, 6, 7, 8], by decide, rfl⟩ (Zf (Zh Tryz.underlying135 rfl rfl (by exact Zo 4 rfl rfl))) ?_
          refine Zc 4 rfl rfl ⟨[0, 1, 2, 3, 4, 5, 6, 7, 8], by decide, rfl⟩ (Zf (Zd rfl (Y6 _))) ?_
          refine Zc 5 rfl rfl ⟨[0, 1, 2, 3, 4, 5, 6, 7, 8], by decide, rfl⟩ (Zf (Zh Tryz.underlying3 rfl rfl (by exact Zo 2 rfl rfl))) ?_
          refine Zc 6 rfl rfl ⟨[0, 1, 2, 3, 4, 5, 6, 7, 8], by decide, rfl⟩ (Zf (Zt Tryz.underlying184 rfl Z6 rfl (by exact ZH 2 (off := 0) (k := 3) rfl rfl) rfl)) ?_
          refine Zc 7 rfl rfl ⟨[0, 1, 2, 3, 4, 5, 6, 7, 8], by decide, rfl⟩ (Zf (Zt Tryz.underlying182 rfl Ya rfl (by exact ZH 3 (off := 0) (k := 2) rfl rfl) rfl)) ?_
          refine Zc 8 rfl rfl ⟨[0, 1, 2, 3, 4, 5, 6, 7, 8], by decide, rfl⟩ (Zf (ZJ rfl (fun _ => YO _ _ _ _ _ _ _))) ?_
          refine ZG 9 rfl (.inr ⟨[0, 1, 2, 3, 4, 5, 6, 7, 8], by decide, rfl⟩) (YM 5 HV (v := ⟨⟨keyP zs, numTo zs 4, YR zs, j, q⟩, rx, cx⟩) Tryz.underlying135 Tryz.underlying3 rfl rfl rfl rfl rfl ?_)
          refine ZS (.inl (by kernel_rfl)) ?_
          refine ZM <| Ze <| Za <| gr rfl (by exact ZQ (b := 1) rfl rfl (by omega)) ?_
          refine gm rfl rfl <| ZU <| Ze ?_
          have hnw : Y9 ⟨keyP zs, numTo zs 4, YR zs, j, q⟩ (plain m) = true := by unfold Y9; rw [show Yv (En.key ⟨keyP zs, numTo zs 4, YR zs, j, q⟩) (plain m) = none from hms.none hg]
          exact ZZ ((q + 1, max nu (numTo zs 4), XT ((keyP zs : Nat) : Int) ⟨⟨keyP zs, numTo zs 4, YR zs, j, q⟩, rx, cx⟩ nb m, mnb ((keyP zs : Nat) : Int) m nb, He.row ⟨⟨keyP zs, numTo zs 4, YR zs, j, q⟩, rx, cx⟩ :: T)) ⟨⟨by simp only; omega, hms.put ⟨⟨keyP zs, numTo zs 4, YR zs, j, q⟩, rx, cx⟩ heo (fun y hy => List.mem_cons_of_mem _ hy) List.mem_cons_self, by simp only; rw [YS, ← hsc, Wm (by rw [hzs]; exact hbd) h44]; simp only [enB, hzs]; rw [if_pos hnw, XP ⟨⟨keyP zs, numTo zs 4, YR zs, j, q⟩, rx, cx⟩ nb hms.key], Nat.max_lt.2 ⟨hnu, hn4⟩⟩, by simp only; omega⟩ ⟨rfl, rfl, rfl, rfl, rfl, rfl, trivial⟩ (ZL (A := [_, _, _, _, _, _]) (B := [_, _, _, _, _, _, _, _, _]) (T := T) [4, 5, 6, 7, 8, 1] 9 (by decide) (by decide) rfl rfl)
        refine ZP [0, 1, 2, 3, 4, 5, 6, 7] false 12 rfl <| Zc 0 rfl rfl ⟨[0, 1, 2, 3, 4, 5, 6, 7], by decide, rfl⟩ (Zf (Zm rfl)) ?_
        refine Zc 1 rfl rfl ⟨[0, 1, 2, 3, 4, 5, 6, 7], by decide, rfl⟩ (Zf (ZI rfl)) ?_
        refine Zc 2 rfl rfl ⟨[0, 1, 2, 3, 4, 5, 6, 7], by decide, rfl⟩ (Zf (Zd rfl (Yj _))) ?_
        refine Zc 3 rfl rfl ⟨[0, 1, 2, 3, 4, 5, 6, 7], by decide, rfl⟩ (Zf (Zh Tryz.underlying135 rfl rfl (by exact Zo 3 rfl rfl))) ?_
        refine Zc 4 rfl rfl ⟨[0, 1, 2, 3, 4, 5, 6, 7], by decide, rfl⟩ (Zf (Zd rfl (Y6 _))) ?_
        refine Zc 5 rfl rfl ⟨[0, 1, 2, 3, 4, 5, 6, 7], by decide, rfl⟩ (Zf (Zh Tryz.underlying3 rfl rfl (by exact Zo 1 rfl rfl))) ?_
        refine Zc 6 rfl rfl ⟨[0, 1, 2, 3, 4, 5, 6, 7], by decide, rfl⟩ (Zf (Xc 4 HV rfl Tryz.underlying135 Tryz.underlying3 Yz rfl rfl)) ?_
        refine Zc 7 rfl rfl ⟨[0, 1, 2, 3, 4, 5, 6, 7], by decide, rfl⟩ (Zf (Zm rfl)) ?_
        refine Zc 8 rfl rfl ⟨[0, 1, 2, 3, 4, 5, 6, 7], by decide, rfl⟩ (Zf (Zv rfl rfl)) ?_
        refine Zc 9 rfl rfl ⟨[0, 1, 2, 3, 4, 5, 6, 7], by decide, rfl⟩ (Zf (Zv rfl rfl)) ?_
        refine ZG 10 rfl (.inr ⟨[0, 1, 2, 3, 4, 5, 6, 7], by decide, rfl⟩) (ZN Yz rfl rfl (fun b9 => ?_))
        rw [hg, Option.map_some, Option.getD_some, Option.isSome_some]
        refine ZG 11 rfl (.inr ⟨[1, 2, 3, 4, 5, 6, 7, 8], by decide, rfl⟩) (Zy 0 Yz rfl rfl rfl rfl rfl rfl (by rfl) ?_)
        refine ZG 12 rfl (.inr ⟨[1, 2, 3, 4, 5, 6, 7, 8], by decide, rfl⟩) (Zn rfl (ZV rfl) ?_)
        refine ZS (.inl (by kernel_rfl)) ?_
        refine Ze <| Zb <| Za <| gm rfl rfl <| gr rfl (rd_not rfl) <| gm rfl rfl <| Zi rfl rfl <| Zn rfl (Zd rfl (JH _)) <| Zi rfl rfl <| Zn rfl (Zd rfl (Xx _)) <| Zi rfl rfl (Zn rfl (Zh Tryz.underlying136 rfl rfl (by exact Zo 0 rfl rfl)) ?_)
        refine Zi rfl rfl <| Zn rfl (Zd rfl (Xx _)) <| Zi rfl rfl (Zn rfl (Zh Tryz.underlying136 rfl rfl (by exact Zo 2 rfl rfl)) ?_)
        refine Zi rfl rfl (Zn rfl (Z2 rfl rfl) (Zx (fun h74 => ?_) (fun h74 => ?_)))
        · refine gr rfl (Zq rfl rfl) <| gA <| Zj rfl <| ZP [0, 1, 2, 3, 4, 5, 6, 7, 8] false 9 rfl <| Zc 0 rfl rfl ⟨[0, 1, 2, 3, 4, 5, 6, 7, 8], by decide, rfl⟩ (Zf (Zm rfl)) ?_
          refine Zc 1 rfl rfl ⟨[0, 1, 2, 3, 4, 5, 6, 7, 8], by decide, rfl⟩ (Zf (ZI rfl)) ?_
          refine Zc 2 rfl rfl ⟨[0, 1, 2, 3, 4, 5, 6, 7, 8], by decide, rfl⟩ (Zf (Zd rfl (Yj _))) ?_
          refine Zc 3 rfl rfl ⟨[0, 1, 2, 3, 4, 5, 6, 7, 8], by decide, rfl⟩ (Zf (Zh Tryz.underlying135 rfl rfl (by exact Zo 4 rfl rfl))) ?_
          refine Zc 4 rfl rfl ⟨[0, 1, 2, 3, 4, 5, 6, 7, 8], by decide, rfl⟩ (Zf (Zd rfl (Y6 _))) ?_
          refine Zc 5 rfl rfl ⟨[0, 1, 2, 3, 4, 5, 6, 7, 8], by decide, rfl⟩ (Zf (Zh Tryz.underlying3 rfl rfl (by exact Zo 2 rfl rfl))) ?_
          refine Zc 6 rfl rfl ⟨[0, 1, 2, 3, 4, 5, 6, 7, 8], by decide, rfl⟩ (Zf (Zt Tryz.underlying184 rfl Z6 rfl (by exact ZH 2 (off := 0) (k := 3) rfl rfl) rfl)) ?_
          refine Zc 7 rfl rfl ⟨[0, 1, 2, 3, 4, 5, 6, 7, 8], by decide, rfl⟩ (Zf (Zt Tryz.underlying182 rfl Ya rfl (by exact ZH 3 (off := 0) (k := 2) rfl rfl) rfl)) ?_
          refine Zc 8 rfl rfl ⟨[0, 1, 2, 3, 4, 5, 6, 7, 8], by decide, rfl⟩ (Zf (ZJ rfl (fun _ => YO _ _ _ _ _ _ _))) ?_
          refine ZG 9 rfl (.inr ⟨[0, 1, 2, 3, 4, 5, 6, 7, 8], by decide, rfl⟩) (YM 5 HV (v := ⟨⟨keyP zs, numTo zs 4, YR zs, j, q⟩, rx, cx⟩) Tryz.underlying135 Tryz.underlying3 rfl rfl rfl rfl rfl ?_)
          refine ZS (.inl (by kernel_rfl)) ?_
          refine ZM <| Ze <| Za <| gr rfl (by exact ZQ (b := 1) rfl rfl (by omega)) ?_
          refine gm rfl rfl <| ZU <| Ze ?_
          have hnw : Y9 ⟨keyP zs, numTo zs 4, YR zs, j, q⟩ (plain m) = true := by unfold Y9; rw [show Yv (En.key ⟨keyP zs, numTo zs 4, YR zs, j, q⟩) (plain m) = some o.en from (hms.get hg).2.2.2]; exact decide_eq_true (by simp only; omega)
          exact ZZ ((q + 1, max nu (numTo zs 4), XT ((keyP zs : Nat) : Int) ⟨⟨keyP zs, numTo zs 4, YR zs, j, q⟩, rx, cx⟩ nb m, mnb ((keyP zs : Nat) : Int) m nb, He.row ⟨⟨keyP zs, numTo zs 4, YR zs, j, q⟩, rx, cx⟩ :: T)) ⟨⟨by simp only; omega, hms.put ⟨⟨keyP zs, numTo zs 4, YR zs, j, q⟩, rx, cx⟩ heo (fun y hy => List.mem_cons_of_mem _ hy) List.mem_cons_self, by simp only; rw [YS, ← hsc, Wm (by rw [hzs]; exact hbd) h44]; simp only [enB, hzs]; rw [if_pos hnw, XP ⟨⟨keyP zs, numTo zs 4, YR zs, j, q⟩, rx, cx⟩ nb hms.key], Nat.max_lt.2 ⟨hnu, hn4⟩⟩, by simp only; omega⟩ ⟨rfl, rfl, rfl, rfl, rfl, rfl, trivial⟩ (ZL (A := [_, _, _, _, _, _]) (B := [_, _, _, _, _, _, _, _, _]) (T := T) [4, 5, 6, 7, 8, 1] 9 (by decide) (by decide) rfl rfl)
        refine gr rfl (Zq rfl rfl) <| gA <| Zk rfl <| Zu <| ZM <| Ze <| Za <| gr rfl (by exact ZQ (b := 1) rfl rfl (by omega)) ?_
        refine gm rfl rfl <| ZU <| Ze ?_
        have hnw : Y9 ⟨keyP zs, numTo zs 4, YR zs, j, q⟩ (plain m) = false := by unfold Y9; rw [show Yv (En.key ⟨keyP zs, numTo zs 4, YR zs, j, q⟩) (plain m) = some o.en from (hms.get hg).2.2.2]; exact decide_eq_false (by simp only; omega)
        exact ZZ ((q + 1, max nu (numTo zs 4), m, nb, T)) ⟨⟨by simp only; omega, hms, by simp only; rw [YS, ← hsc, Wm (by rw [hzs]; exact hbd) h44]; simp only [enB, hzs]; rw [hnw]; rfl, Nat.max_lt.2 ⟨hnu, hn4⟩⟩, by simp only; omega⟩ ⟨rfl, rfl, rfl, rfl, rfl, rfl, trivial⟩ (Yo 4 rfl)
      refine gA <| Zb <| Zj rfl <| Zu <| Ze <| Zb <| ZC <| Zb <| Za <| gm rfl rfl <| gas rfl rfl <| gA <| Zb <| Za <| gm rfl rfl <| gm rfl rfl <| gr rfl (ZJ rfl (fun _ => W8 _ _)) ?_
      refine Zl (ZN Ya rfl rfl (fun b6 => ?_))
      refine Zl (Zy 0 Ya rfl rfl rfl rfl rfl rfl (by rfl) ?_)
      refine gA <| Zb <| ZP [0, 1, 2, 3, 4, 5] false 12 rfl <| Zc 0 rfl rfl ⟨[0, 1, 2, 3, 4, 5], by decide, rfl⟩ (Zf (Zm rfl)) ?_
      refine Zc 1 rfl rfl ⟨[0, 1, 2, 3, 4, 5], by decide, rfl⟩ (Zf (ZI rfl)) ?_
      refine Zc 2 rfl rfl ⟨[0, 1, 2, 3, 4, 5], by decide, rfl⟩ (Zf (Zd rfl (Xp _))) ?_
      refine Zc 3 rfl rfl ⟨[0, 1, 2, 3, 4, 5], by decide, rfl⟩ (Zf (Zh Tryz.underlying32 rfl rfl (by exact Zo 1 rfl rfl))) ?_
      refine Zc 4 rfl rfl ⟨[0, 1, 2, 3, 4, 5], by decide, rfl⟩ (Zf (Zt Tryz.underlying182 rfl Ya rfl (by exact ZH 0 (off := 0) (k := 2) rfl rfl) rfl)) ?_
      refine Zc 5 rfl rfl ⟨[0, 1, 2, 3, 4, 5], by decide, rfl⟩ (YC (vf := []) (vc := []) rfl rfl Tryz.call108 (fun w1 ho => Zev f hf bf gb cb rp cp w1 (ho.blkCells 3 rfl) hcb j q (by omega)) (by rintro _ _ ⟨h, _⟩; exact h)) ?_
      refine Zc 6 rfl rfl ⟨[0, 1, 2, 3, 4, 5], by decide, rfl⟩ (YC (vf := []) (vc := []) rfl rfl Tryz.call107 (fun w1 ho => Zew zs hz8 hzl (some ⟨gb, j * 256 + q * 24, none⟩) (cb - (j * 256 + q * 24)) (by omega) w1 (by rw [← hzs]; unfold slotB; rw [← Vu]; exact Zaq (ho.rowSl 4 rfl) (j * 256 + q * 24) 24 (by omega)) hbd) (by rintro _ _ ⟨h, _⟩; exact h)) ?_
      refine Zc 7 rfl rfl ⟨[0, 1, 2, 3, 4, 5], by decide, rfl⟩ (Zf (Zm rfl)) ?_
      refine Zc 8 rfl rfl ⟨[0, 1, 2, 3, 4, 5], by decide, rfl⟩ (Zf (Zv rfl rfl)) ?_
      refine Zc 9 rfl rfl ⟨[0, 1, 2, 3, 4, 5], by decide, rfl⟩ (Zf (Zv rfl rfl)) ?_
      refine ZG 10 rfl (.inr ⟨[0, 1, 2, 3, 4, 5], by decide, rfl⟩) (ZN Z6 rfl rfl (fun b7 => ?_))
      refine ZG 11 rfl (.inr ⟨[1, 2, 3, 4, 5, 6], by decide, rfl⟩) (Zy 0 Z6 rfl rfl rfl rfl rfl rfl (by rfl) ?_)
      refine ZG 12 rfl (.inr ⟨[1, 2, 3, 4, 5, 6], by decide, rfl⟩) (Zn rfl (ZV rfl) ?_)
      refine ZS (.inl (by kernel_rfl)) ?_
      refine Ze <| Zb <| Zb <| Za <| gm rfl rfl <| gr rfl (rd_not rfl) <| gm rfl rfl <| Zs rfl rfl rfl <| Zs rfl rfl rfl <| Zs rfl rfl rfl <| gr rfl (ZB rfl rfl) <| gA <| Zj rfl <| Z1 <| Zr <| ZE <| Ze <| Za <| gr rfl (by exact ZQ (b := 1) rfl rfl (by omega)) ?_
      refine gm rfl rfl <| ZU <| Ze ?_
      exact ZZ ((q + 1, nu, m, nb, T)) ⟨⟨by simp only; omega, hms, by simp only; rw [YS, ← hsc, Vw (.inl (by rw [hzs]; exact hbd))], hnu⟩, by simp only; omega⟩ ⟨rfl, rfl, rfl, rfl, rfl, rfl, trivial⟩ (Yo 2 rfl)
    refine gA <| Zb <| Zk rfl <| Z1 <| Zr <| Zr <| ZE <| ZM <| Ze <| Za <| gr rfl (by exact ZQ (b := 1) rfl rfl (by omega)) ?_
    refine gm rfl rfl <| ZU <| Ze ?_
    exact ZZ ((j + 1, nu, m, nb, T)) ⟨⟨by simp only; omega, hms, by simp only; rw [VV, ← hsc0, hsc, show q = 10 by omega], hnu⟩, by simp only; omega⟩ ⟨rfl, rfl, rfl, rfl, trivial⟩ (Yo 0 rfl)
  refine gA <| Zb <| Zk rfl <| Z1 <| Zr <| Zr <| ZE <| gx_ret0S (.inr rfl) Tryz.results70 (Yo 0 rfl) ?_
  exact ⟨b12, m, nb, T, nu, rfl, hms, by rw [hsc, show j = f.b.length / 256 by omega]; rfl, hnu, rfl⟩
namespace Iv
theorem Zc5 {b : List Nat} {P : List En} {bk q : Nat} (hq : q < 10) (h : Xf b P bk q = false) : JN b P bk = false := by
  unfold JN
  rw [List.all_eq_false]
  exact ⟨q, List.mem_range.2 hq, by rw [h]; decide⟩
theorem Zlo {b : List Nat} {P : List En} {bk : Nat} (h : ∀ i, i < 10 → Xf b P bk i = true) : JN b P bk = true := by
  unfold JN
  rw [List.all_eq_true]
  exact fun i hi => h i (List.mem_range.1 hi)
structure RoomAt (b : List Nat) (free : Int) (bk sl : Nat) : Prop where
  hbk : bk < b.length / 256
  hsl : sl < 10
  ne : (bk : Int) ≠ free
  em : Yg (slotB b bk sl) = 0
def NoRoom (b : List Nat) (free : Int) : Prop := ∀ bk sl, bk < b.length / 256 → sl < 10 → (bk : Int) ≠ free → Yg (slotB b bk sl) ≠ 0
def RoomR (b : List Nat) (free : Int) (v : Value) (L : List HL) : Prop :=
  L = [] ∧ ((∃ bk sl : Nat, v = .tuple #[.agg #[natV bk, natV sl], .bool true] ∧ RoomAt b free bk sl) ∨ (∃ bk sl : Nat, v = .tuple #[.agg #[natV bk, natV sl], .bool false] ∧ NoRoom b free))
end Iv
theorem spare_ok (f : Fl) (hf : f.Ok) (bs bf : Nat) (rb : Option Nat) (cb : Nat) (rp : Option Nat) (cp : Nat) (id bm num : Nat) (free : Int) (m : List (ME He)) (nb : Nat) (T : List HL) (hms : MSt m nb T) (S : List Nat) (w0 : World) (hown : Own w0 S w0 (.blk bs [.bool true, .pointer (some ⟨bf, 0, none⟩), natV id, .map (some bm), .int .u32 ((num : Nat) : Int), .int .i64 free] 138 :: .obj bm (Xo HV m nb) :: FlH bf rb cb rp cp f)) (j : Nat) (hj : j < f.b.length / 256) : Sp Tryz.prog 71 [.pointer (some ⟨bs, 0, none⟩), natV j] w0 S (fun v L => v = .bool (JN f.b (plain m) j) ∧ L = (.blk bs [.bool true, .pointer (some ⟨bf, 0, none⟩), natV id, .map (some bm), .int .u32 ((num : Nat) : Int), .int .i64 free] 138 :: .obj bm (Xo HV m nb) :: FlH bf rb cb rp cp f)) := by
  have hbl := hf.hi
  have hbl0 := hf.lo
  have hblm := hf.len
  obtain ⟨gb, rfl, hcb⟩ := JJ (hown.holds (.row 5 1 rb f.b.length cb (f.b.map u8V)) (by simp)) (by omega)
  refine ZA Tryz.func71 rfl Tryz.ntmps71 rfl hown ?_
  simp only [ZT]
  refine Zb <| Za <| gas rfl rfl <| gA <| Zb <| Zb <| Za <| gm rfl rfl <| gA <| ZC <| Z0 (ι := Nat) [(0, _), (1, _)] [_, _, _, _, _] (fun q => q ≤ 10 ∧ ∀ i, i < q → Xf f.b (plain m) j i = true) (fun q Fr0 => ((10, natV q) :: Fr0)) (fun q Fr0 => Fr0) (fun q => 10 - q) 0 (⟨Nat.zero_le _, fun i hi => absurd hi (Nat.not_lt_zero _)⟩) ⟨rfl, rfl, rfl, trivial⟩ ⟨[0, 1, 2, 3, 4], by decide, rfl⟩ ?_
  rintro q ⟨hq, hcv⟩
  refine Zb <| Za <| gr rfl (Z2 rfl rfl) (Zx (fun h11 => ?_) (fun h11 => ?_))
  · obtain ⟨zs, hzs⟩ : ∃ zs, slotB f.b j q = zs := ⟨_, rfl⟩
    have hzl : zs.length = 24 := by rw [← hzs]; exact WD (by omega)
    have hz8 : ∀ z ∈ zs, z < 256 := by rw [← hzs]; exact Wz hf.bs j q
    rcases hbd : X1 zs with _ | _
    · refine gA <| Zb <| Zj rfl <| Zu <| Ze <| Zb <| ZC <| Zb <| Za <| gm rfl rfl <| gas rfl rfl <| gA <| Zb <| Za <| gm rfl rfl <| gnc rfl rfl <| gr rfl (Zd rfl (Xp _)) <| gr rfl (Zh Tryz.underlying32 rfl rfl (by exact Zo 0 rfl rfl)) ?_
      refine gm rfl rfl <| gm rfl rfl <| gr rfl (ZJ rfl (fun _ => W8 _ _)) ?_
      refine Zl (ZD rfl (vf := []) (vc := []) rfl rfl Tryz.call108 (fun w1 ho => Zev f hf bf gb cb rp cp w1 (ho.blkCells 2 rfl) hcb j q (by omega)) ?_)
      rintro _ _ ⟨rfl, rfl⟩
      refine Zl (ZD rfl (vf := []) (vc := []) rfl rfl Tryz.call107 (fun w1 ho => JO zs hz8 hzl (some ⟨gb, j * 256 + q * 24, none⟩) (cb - (j * 256 + q * 24)) (by omega) w1 (by rw [← hzs]; unfold slotB; rw [← Vu]; exact Zaq (ho.rowSl 3 rfl) (j * 256 + q * 24) 24 (by omega)) hbd) ?_)
      rintro _ _ ⟨rx, cx, rfl, rfl⟩
      refine gm rfl rfl <| gr rfl (Zv rfl rfl) <| gr rfl (Zv rfl rfl) <| Zl (ZN Z6 rfl rfl (fun b6 => ?_))
      refine Zl (Zy 0 Z6 rfl rfl rfl rfl rfl rfl (by rfl) ?_)
      refine gas rfl rfl <| gA <| Zb <| Zb <| Za <| gm rfl rfl <| gr rfl (rd_not rfl) <| gA <| Zk rfl <| Zu <| Ze <| Zb ?_
      rcases hg : XL ((keyP zs : Nat) : Int) m with _ | o
      · refine ZP [0, 1, 2, 3, 4, 5, 6] false 12 rfl <| Zc 0 rfl rfl ⟨[0, 1, 2, 3, 4, 5, 6], by decide, rfl⟩ (Zf (Zm rfl)) ?_
        refine Zc 1 rfl rfl ⟨[0, 1, 2, 3, 4, 5, 6], by decide, rfl⟩ (Zf (ZI rfl)) ?_
        refine Zc 2 rfl rfl ⟨[0, 1, 2, 3, 4, 5, 6], by decide, rfl⟩ (Zf (Zd rfl (Yj _))) ?_
        refine Zc 3 rfl rfl ⟨[0, 1, 2, 3, 4, 5, 6], by decide, rfl⟩ (Zf (Zh Tryz.underlying135 rfl rfl (by exact Zo 2 rfl rfl))) ?_
        refine Zc 4 rfl rfl ⟨[0, 1, 2, 3, 4, 5, 6], by decide, rfl⟩ (Zf (Zd rfl (Y6 _))) ?_
        refine Zc 5 rfl rfl ⟨[0, 1, 2, 3, 4, 5, 6], by decide, rfl⟩ (Zf (Zh Tryz.underlying3 rfl rfl (by exact Zo 0 rfl rfl))) ?_
        refine Zc 6 rfl rfl ⟨[0, 1, 2, 3, 4, 5, 6], by decide, rfl⟩ (Zf (Xc 3 HV rfl Tryz.underlying135 Tryz.underlying3 Yz rfl rfl)) ?_
        refine Zc 7 rfl rfl ⟨[0, 1, 2, 3, 4, 5, 6], by decide, rfl⟩ (Zf (Zm rfl)) ?_
        refine Zc 8 rfl rfl ⟨[0, 1, 2, 3, 4, 5, 6], by decide, rfl⟩ (Zf (Zv rfl rfl)) ?_
        refine Zc 9 rfl rfl ⟨[0, 1, 2, 3, 4, 5, 6], by decide, rfl⟩ (Zf (Zv rfl rfl)) ?_
        refine ZG 10 rfl (.inr ⟨[0, 1, 2, 3, 4, 5, 6], by decide, rfl⟩) (ZN Yz rfl rfl (fun b8 => ?_))
        rw [hg, Option.map_none, Option.getD_none, Option.isSome_none]
        refine ZG 11 rfl (.inr ⟨[1, 2, 3, 4, 5, 6, 7], by decide, rfl⟩) (Zy 0 Yz rfl rfl rfl rfl rfl rfl (by rfl) ?_)
        refine ZG 12 rfl (.inr ⟨[1, 2, 3, 4, 5, 6, 7], by decide, rfl⟩) (Zn rfl (ZV rfl) ?_)
        refine ZS (.inl (by kernel_rfl)) ?_
        refine Ze <| Zb <| Za <| gm rfl rfl <| gr rfl (rd_not rfl) <| gm rfl rfl <| Zs rfl rfl rfl <| Zs rfl rfl rfl <| Zs rfl rfl rfl <| Zs rfl rfl rfl <| Zs rfl rfl rfl <| Zs rfl rfl rfl <| gr rfl (ZB rfl rfl) <| gA <| Zj rfl <| Zb <| Za <| gas rfl rfl <| gA <| Zp <| Zw <| Zg <| Zg ?_
        refine Zw <| Zg ?_
        have hco : Xf f.b (plain m) j q = false := by unfold Xf; rw [show Y9 (enB f.b j q) (plain m) = true by unfold Y9 enB; rw [hzs]; rw [show Yv (En.key ⟨keyP zs, numTo zs 4, YR zs, j, q⟩) (plain m) = none from hms.none hg], hzs, hbd]; rfl
        refine Zz (.inl rfl) Tryz.results71 rfl [3, 4, 5, 6, 7] (by decide) ?_
        exact ⟨by rw [Zc5 (by omega) hco], rfl⟩
      refine ZP [0, 1, 2, 3, 4, 5, 6] false 12 rfl <| Zc 0 rfl rfl ⟨[0, 1, 2, 3, 4, 5, 6], by decide, rfl⟩ (Zf (Zm rfl)) ?_
      refine Zc 1 rfl rfl ⟨[0, 1, 2, 3, 4, 5, 6], by decide, rfl⟩ (Zf (ZI rfl)) ?_
      refine Zc 2 rfl rfl ⟨[0, 1, 2, 3, 4, 5, 6], by decide, rfl⟩ (Zf (Zd rfl (Yj _))) ?_
      refine Zc 3 rfl rfl ⟨[0, 1, 2, 3, 4, 5, 6], by decide, rfl⟩ (Zf (Zh Tryz.underlying135 rfl rfl (by exact Zo 2 rfl rfl))) ?_
      refine Zc 4 rfl rfl ⟨[0, 1, 2, 3, 4, 5, 6], by decide, rfl⟩ (Zf (Zd rfl (Y6 _))) ?_
      refine Zc 5 rfl rfl ⟨[0, 1, 2, 3, 4, 5, 6], by decide, rfl⟩ (Zf (Zh Tryz.underlying3 rfl rfl (by exact Zo 0 rfl rfl))) ?_
      refine Zc 6 rfl rfl ⟨[0, 1, 2, 3, 4, 5, 6], by decide, rfl⟩ (Zf (Xc 3 HV rfl Tryz.underlying135 Tryz.underlying3 Yz rfl rfl)) ?_
      refine Zc 7 rfl rfl ⟨[0, 1, 2, 3, 4, 5, 6], by decide, rfl⟩ (Zf (Zm rfl)) ?_
      refine Zc 8 rfl rfl ⟨[0, 1, 2, 3, 4, 5, 6], by decide, rfl⟩ (Zf (Zv rfl rfl)) ?_
      refine Zc 9 rfl rfl ⟨[0, 1, 2, 3, 4, 5, 6], by decide, rfl⟩ (Zf (Zv rfl rfl)) ?_
      refine ZG 10 rfl (.inr ⟨[0, 1, 2, 3, 4, 5, 6], by decide, rfl⟩) (ZN Yz rfl rfl (fun b8 => ?_))
      rw [hg, Option.map_some, Option.getD_some, Option.isSome_some]
      refine ZG 11 rfl (.inr ⟨[1, 2, 3, 4, 5, 6, 7], by decide, rfl⟩) (Zy 0 Yz rfl rfl rfl rfl rfl rfl (by rfl) ?_)
      refine ZG 12 rfl (.inr ⟨[1, 2, 3, 4, 5, 6, 7], by decide, rfl⟩) (Zn rfl (ZV rfl) ?_)
      refine ZS (.inl (by kernel_rfl)) ?_
      refine Ze <| Zb <| Za <| gm rfl rfl <| gr rfl (rd_not rfl) <| gm rfl rfl <| Zi rfl rfl <| Zn rfl (Zd rfl (JH _)) <| Zi rfl rfl <| Zn rfl (Zd rfl (Xx _)) <| Zi rfl rfl (Zn rfl (Zh Tryz.underlying136 rfl rfl (by exact Zo 0 rfl rfl)) ?_)
      refine Zi rfl rfl <| Zn rfl (Zd rfl (Xx _)) <| Zi rfl rfl (Zn rfl (Zh Tryz.underlying136 rfl rfl (by exact Zo 1 rfl rfl)) ?_)
      refine Zi rfl rfl (Zn rfl (Z2 rfl rfl) (Zx (fun h45 => ?_) (fun h45 => ?_)))
      · refine gr rfl (Zq rfl rfl) <| gA <| Zj rfl <| Zb <| Za <| gas rfl rfl <| gA <| Zp <| Zw <| Zg <| Zg <| Zw <| Zg ?_
        have hco : Xf f.b (plain m) j q = false := by unfold Xf; rw [show Y9 (enB f.b j q) (plain m) = true by unfold Y9 enB; rw [hzs]; rw [show Yv (En.key ⟨keyP zs, numTo zs 4, YR zs, j, q⟩) (plain m) = some o.en from (hms.get hg).2.2.2]; exact decide_eq_true (by simp only; omega), hzs, hbd]; rfl
        refine Zz (.inl rfl) Tryz.results71 rfl [3, 4, 5, 6, 7] (by decide) ?_
        exact ⟨by rw [Zc5 (by omega) hco], rfl⟩
      refine gr rfl (Zq rfl rfl) <| gA <| Zk rfl <| Zu <| ZM <| Ze <| Za <| gr rfl (by exact ZQ (b := 1) rfl rfl (by omega)) ?_
      refine gm rfl rfl <| ZU <| Ze ?_
      have hco : Xf f.b (plain m) j q = true := by unfold Xf; rw [show Y9 (enB f.b j q) (plain m) = false by unfold Y9 enB; rw [hzs]; rw [show Yv (En.key ⟨keyP zs, numTo zs 4, YR zs, j, q⟩) (plain m) = some o.en from (hms.get hg).2.2.2]; exact decide_eq_false (by simp only; omega)]; simp
      exact ZZ (q + 1) ⟨⟨by omega, fun i hi => by rcases (show i < q ∨ i = q by omega) with h | h; exact hcv i h; rw [h]; exact hco⟩, by omega⟩ ⟨rfl, rfl, rfl, trivial⟩ ⟨[3, 4, 5, 6, 7], by decide, rfl⟩
    refine gA <| Zb <| Zj rfl <| Zu <| Ze <| Zb <| ZC <| Zb <| Za <| gm rfl rfl <| gas rfl rfl <| gA <| Zb <| Za <| gm rfl rfl <| gnc rfl rfl <| gr rfl (Zd rfl (Xp _)) <| gr rfl (Zh Tryz.underlying32 rfl rfl (by exact Zo 0 rfl rfl)) ?_
    refine gm rfl rfl <| gm rfl rfl <| gr rfl (ZJ rfl (fun _ => W8 _ _)) ?_
    refine Zl (ZD rfl (vf := []) (vc := []) rfl rfl Tryz.call108 (fun w1 ho => Zev f hf bf gb cb rp cp w1 (ho.blkCells 2 rfl) hcb j q (by omega)) ?_)
    rintro _ _ ⟨rfl, rfl⟩
    refine Zl (ZD rfl (vf := []) (vc := []) rfl rfl Tryz.call107 (fun w1 ho => Zew zs hz8 hzl (some ⟨gb, j * 256 + q * 24, none⟩) (cb - (j * 256 + q * 24)) (by omega) w1 (by rw [← hzs]; unfold slotB; rw [← Vu]; exact Zaq (ho.rowSl 3 rfl) (j * 256 + q * 24) 24 (by omega)) hbd) ?_)
    rintro _ _ ⟨rfl, rfl⟩
    refine gm rfl rfl <| gr rfl (Zv rfl rfl) <| gr rfl (Zv rfl rfl) <| Zl (ZN Z6 rfl rfl (fun b6 => ?_))
    refine Zl (Zy 0 Z6 rfl rfl rfl rfl rfl rfl (by rfl) ?_)
    refine gas rfl rfl <| gA <| Zb <| Zb <| Za <| gm rfl rfl <| gr rfl (rd_not rfl) <| gA <| Zj rfl <| Z1 <| Zr <| ZE <| Ze <| Za <| gr rfl (by exact ZQ (b := 1) rfl rfl (by omega)) ?_
    refine gm rfl rfl <| ZU <| Ze ?_
    have hco : Xf f.b (plain m) j q = true := by unfold Xf; rw [hzs, hbd]; rfl
    exact ZZ (q + 1) ⟨⟨by omega, fun i hi => by rcases (show i < q ∨ i = q by omega) with h | h; exact hcv i h; rw [h]; exact hco⟩, by omega⟩ ⟨rfl, rfl, rfl, trivial⟩ ⟨[1, 2, 3, 4, 5], by decide, rfl⟩
  refine gA <| Zb <| Zk rfl <| Z1 <| Zr <| Zr <| ZE <| Ze <| Zb <| Za <| gas rfl rfl <| gA <| Zp <| Zz (.inl rfl) Tryz.results71 rfl [0, 1, 2, 3, 4] (by decide) ?_
  exact ⟨by rw [Zlo (fun i hi => hcv i (by omega))], rfl⟩
theorem Zh3 (f : Fl) (hf : f.Ok) (bs bf : Nat) (gb : Nat) (cb : Nat) (rp : Option Nat) (cp : Nat) (id bm num : Nat) (free : Int) (w0 : World) (hs : Cells w0 ⟨bs, 0, none⟩ [.bool true, .pointer (some ⟨bf, 0, none⟩), natV id, .map (some bm), .int .u32 (num : Nat), .int .i64 free]) (hc : Cells w0 ⟨bf, 0, none⟩ (f.cells (some gb) cb rp cp)) (hb : OldSl w0 [] (rowA (some gb)) f.b.length 1 (f.b.map u8V)) (hcb : f.b.length ≤ cb) : Sp Tryz.prog 186 [.pointer (some ⟨bs, 0, none⟩)] w0 [] (RoomR f.b free) := by
  have hbl := hf.hi
  have hbl0 := hf.lo
  have hblm := hf.len
  refine ZA Tryz.func186 rfl Tryz.ntmps186 rfl (Own.refl _) ?_
  simp only [ZT]
  refine Zb <| Za <| Zl (ZN Ya rfl rfl (fun b2 => ?_))
  refine gas rfl rfl <| gA <| gc_scope <| Zb <| Za <| Zl (ZN Ya rfl rfl (fun b4 => ?_))
  refine gA <| Zb <| Za <| gas rfl rfl <| gA <| Zb <| gc_label <| Ze <| Zb <| Zb <| Za <| gm rfl rfl <| gnc rfl rfl <| gr rfl (Zd rfl (Xp _)) <| gr rfl (Zh Tryz.underlying32 rfl rfl (Yd (j := 1) hs (by simp) rfl)) ?_
  refine Zl (ZD rfl (vf := []) (vc := []) rfl rfl Tryz.call41 (fun w1 ho => VT f hf bf (some gb) cb rp cp w1 (hc.at ho)) ?_)
  rintro _ _ ⟨rfl, rfl⟩
  refine gm rfl rfl <| gA <| ZC <| Z0 (ι := Nat × Nat × Nat) [(0, _), (2, _), (4, _), (12, _)] [_] (fun j => j.1 ≤ f.b.length / 256 ∧ ∀ bk sl, bk < j.1 → sl < 10 → (bk : Int) ≠ free → Yg (slotB f.b bk sl) ≠ 0) (fun j Fr0 => ((5, .bool false) :: (13, natV j.1) :: Fr0)) (fun j Fr0 => (.blk b4 [natV j.2.1, natV j.2.2] 182 :: Fr0)) (fun j => f.b.length / 256 - j.1) (0, 0, 0) (⟨Nat.zero_le _, fun bk sl h => absurd h (Nat.not_lt_zero _)⟩) ⟨rfl, rfl, rfl, rfl, rfl, rfl, trivial⟩ ⟨[0, 1], by decide, rfl⟩ ?_
  rintro ⟨j, pb, ps⟩ ⟨hj, hno⟩
  simp only at hj hno ⊢
  refine Zb <| Za <| gr rfl (Z2 rfl rfl) (Zx (fun h14 => ?_) (fun h14 => ?_))
  · refine gA <| Zb <| Zj rfl <| Zu <| Ze <| Zb <| ZC <| Zb <| Za <| gm rfl rfl <| gas rfl rfl <| gA <| Zb <| Za <| gm rfl rfl <| gA <| ZC <| Z0 (ι := Nat × Nat × Nat) [(0, _), (2, _), (4, _), (6, _), (12, _), (13, _)] [_] (fun q => q.1 ≤ 10 ∧ ∀ sl, sl < q.1 → (j : Int) ≠ free → Yg (slotB f.b j sl) ≠ 0) (fun q Fr0 => ((5, .bool false) :: (16, natV q.1) :: Fr0)) (fun q Fr0 => (.blk b4 [natV q.2.1, natV q.2.2] 182 :: Fr0)) (fun q => 10 - q.1) (0, pb, ps) (⟨Nat.zero_le _, fun sl h => absurd h (Nat.not_lt_zero _)⟩) ⟨rfl, rfl, rfl, rfl, rfl, rfl, rfl, rfl, trivial⟩ ⟨[0, 1], by decide, rfl⟩ ?_
    rintro ⟨q, pb, ps⟩ ⟨hq, hno2⟩
    simp only at hq hno2 ⊢
    refine Zb <| Za <| gr rfl (Z2 rfl rfl) (Zx (fun h17 => ?_) (fun h17 => ?_))
    · refine gA <| Zb <| Zj rfl <| Zu <| Ze <| Zb <| ZC <| Zb <| Za <| gm rfl rfl <| gas rfl rfl <| gA <| Zb <| Zb <| Za <| gm rfl rfl <| gm rfl rfl <| gnc rfl rfl <| gr rfl (Zd rfl (X9 _)) <| gr rfl (Zh Tryz.underlying3 rfl rfl (Yd (j := 5) hs (by simp) rfl)) ?_
      refine gr rfl (Yt rfl rfl) (Zx (fun h24 => ?_) (fun h24 => ?_))
      · refine gA <| Zj rfl <| Z1 <| Zr <| XR rfl <| Zr <| Zr <| XR rfl <| ZE <| Ze <| Za <| gr rfl (by exact ZQ (b := 1) rfl rfl (by omega)) ?_
        refine gm rfl rfl <| ZU <| Ze ?_
        exact ZZ ((j + 1, pb, ps)) ⟨⟨by simp only; omega, fun bk sl h1 h2 h3 => by simp only at h1; rcases (show bk < j ∨ bk = j by omega) with h | h; exact hno bk sl h h2 h3; subst h; exact absurd h24.symm (fun e => h3 e.symm)⟩, by simp only; omega⟩ ⟨rfl, rfl, rfl, rfl, rfl, rfl, trivial⟩ ⟨[0, 1], by decide, rfl⟩
      obtain ⟨zs, hzs⟩ : ∃ zs, slotB f.b j q = zs := ⟨_, rfl⟩
      have hzl : zs.length = 24 := by rw [← hzs]; exact WD (by omega)
      have hz8 : ∀ z ∈ zs, z < 256 := by rw [← hzs]; exact Wz hf.bs j q
      refine gA <| Zk rfl <| Zu <| Ze <| Zb <| Za <| gm rfl rfl <| gm rfl rfl <| gr rfl (ZJ rfl (fun _ => W8 _ _)) ?_
      refine Zl (Zy 0 Ya rfl rfl rfl rfl rfl rfl (by rfl) ?_)
      refine gA <| Zb <| ZP [0, 1] true 6 rfl <| Zc 0 rfl rfl ⟨[0, 1], by decide, rfl⟩ (Zf (Zm rfl)) ?_
      refine Zc 1 rfl rfl ⟨[0, 1], by decide, rfl⟩ (Zf (ZI rfl)) ?_
      refine Zc 2 rfl rfl ⟨[0, 1], by decide, rfl⟩ (Zf (Zd rfl (Xp _))) ?_
      refine Zc 3 rfl rfl ⟨[0, 1], by decide, rfl⟩ (Zf (Zh Tryz.underlying32 rfl rfl (Yd (j := 1) hs (by simp) rfl))) ?_
      refine Zc 4 rfl rfl ⟨[0, 1], by decide, rfl⟩ (Zf (Zt Tryz.underlying182 rfl Ya rfl (by exact ZH 0 (off := 0) (k := 2) rfl rfl) rfl)) ?_
      refine Zc 5 rfl rfl ⟨[0, 1], by decide, rfl⟩ (YC (vf := []) (vc := []) rfl rfl Tryz.call108 (fun w1 ho => Zev f hf bf gb cb rp cp w1 (hc.at ho) hcb j q (by omega)) (by rintro _ _ ⟨h, _⟩; exact h)) ?_
      refine Zc 6 rfl rfl ⟨[0, 1], by decide, rfl⟩ (YC (vf := []) (vc := []) rfl rfl Tryz.call106 (fun w1 ho => by have h := Zjw zs hz8 (some ⟨gb, j * 256 + q * 24, none⟩) (cb - (j * 256 + q * 24)) w1 (by rw [hzl, ← hzs]; unfold slotB; rw [← Vu]; exact Zaq (hb.at ho) (j * 256 + q * 24) 24 (by omega)) (by omega); rw [hzl] at h; exact h) (by rintro _ _ ⟨h, _⟩; exact h)) ?_
      refine Z3 (fun hem => ?_) (fun hem => ?_)
      · refine ZS (.inr ⟨[0, 1], by decide, rfl⟩) ?_
        refine Ze <| Zj rfl <| Zb <| Za <| gas rfl rfl <| gA <| Z1 <| XR rfl <| Zr <| Zr <| XR rfl <| XR rfl <| Zr <| Zr <| ZE <| Ze <| Zb <| Za <| gr rfl (Zt Tryz.underlying182 rfl Ya rfl (by exact ZH 0 (off := 0) (k := 2) rfl rfl) rfl) ?_
        refine gm rfl rfl <| Zl (Zy 1 Ya rfl rfl rfl rfl rfl rfl (by rfl) ?_)
        refine gas rfl rfl <| gA <| Zp <| Za7 <| YJ (.inl rfl) Tryz.results186 (YL Tryz.underlying182 rfl Ya rfl (by rfl) (ZH 1 (off := 0) (k := 2) rfl rfl)) (Xh rfl) [] (by decide) ?_
        exact ⟨rfl, .inl ⟨j, q, rfl, by omega, by omega, fun e => h24 e, by rw [hzs]; exact of_decide_eq_true hem⟩⟩
      refine ZS (.inr ⟨[0, 1], by decide, rfl⟩) ?_
      refine Ze <| Zk rfl <| Zu <| ZM <| Ze <| Za <| gr rfl (by exact ZQ (b := 1) rfl rfl (by omega)) ?_
      refine gm rfl rfl <| ZU <| Ze ?_
      exact ZZ ((q + 1, j, q)) ⟨⟨by simp only; omega, fun sl h1 h3 => by simp only at h1; rcases (show sl < q ∨ sl = q by omega) with h | h; exact hno2 sl h h3; rw [h, hzs]; exact of_decide_eq_false hem⟩, by simp only; omega⟩ ⟨rfl, rfl, rfl, rfl, rfl, rfl, rfl, rfl, trivial⟩ ⟨[0, 1], by decide, rfl⟩
    refine gA <| Zb <| Zk rfl <| Z1 <| Zr <| Zr <| ZE <| ZM <| Ze <| Za <| gr rfl (by exact ZQ (b := 1) rfl rfl (by omega)) ?_
    refine gm rfl rfl <| ZU <| Ze ?_
    exact ZZ ((j + 1, pb, ps)) ⟨⟨by simp only; omega, fun bk sl h1 h2 h3 => by simp only at h1; rcases (show bk < j ∨ bk = j by omega) with h | h; exact hno bk sl h h2 h3; subst h; exact hno2 sl (by omega) h3⟩, by simp only; omega⟩ ⟨rfl, rfl, rfl, rfl, rfl, rfl, trivial⟩ ⟨[0, 1], by decide, rfl⟩
  refine gA <| Zb <| Zk rfl <| Z1 <| Zr <| Zr <| ZE <| Ze <| Zb <| Za <| gr rfl (Zt Tryz.underlying182 rfl Ya rfl (by exact ZH 0 (off := 0) (k := 2) rfl rfl) rfl) ?_
  refine gm rfl rfl <| Zl (Zy 1 Ya rfl rfl rfl rfl rfl rfl (by rfl) ?_)
  refine gas rfl rfl <| gA <| Zp <| Za7 <| YJ (.inl rfl) Tryz.results186 (YL Tryz.underlying182 rfl Ya rfl (by rfl) (ZH 1 (off := 0) (k := 2) rfl rfl)) (Xh rfl) [] (by decide) ?_
  exact ⟨rfl, .inr ⟨pb, ps, rfl, fun bk sl h1 h2 h3 => hno bk sl (by omega) h2 h3⟩⟩
namespace Iv
structure Fresh (f : Fl) (n : Nat) : Prop where
  ok : f.Ok
  dn : f.down = false
  left : f.left = -1
  bl : f.b = List.replicate f.b.length 255
  len : f.b.length = 256 * n
  pr : f.pr = 0
  er : f.er = 0
theorem Zgl {n : Nat} (h4 : 4 ≤ n) (h64 : n ≤ 64) : Fresh (flNew (List.replicate (256 * n) 255)) n := by
  have hl : (flNew (List.replicate (256 * n) 255)).b.length = 256 * n := List.length_replicate
  refine ⟨⟨fun z hz => ?_, (fun z hz => by cases hz), by rw [hl]; omega, by rw [hl]; omega, by rw [hl]; omega, Nat.zero_le _, (by decide : (0 : Nat) < 4611686018427387904), (by decide : (0 : Nat) < 4611686018427387904), (by decide : (0 : Nat) < 4611686018427387904), (by decide : (-1 : Int) ≤ -1), (by decide : (-1 : Int) ≤ 9223372036854775807)⟩, rfl, rfl, by rw [hl]; rfl, hl, rfl, rfl⟩
  rw [List.eq_of_mem_replicate hz]; decide
end Iv
namespace Iv
theorem Zck {f : Fl} (hf : f.Ok) (he : f.er + 1 < 4611686018427387904) (at_ : Int) : (Yh f at_).1.Ok ∧ (Yh f at_).1.er ≤ f.er + 1 ∧ (Yh f at_).1.b.length = f.b.length ∧ (Yh f at_).1.st = f.st ∧ (Yh f at_).1.pr = f.pr := by
  unfold Yh
  split
  · exact ⟨hf, Nat.le_succ _, rfl, rfl, rfl⟩
  · rename_i h
    have hat : 0 ≤ at_ ∧ at_ < ((f.b.length / 256 : Nat) : Int) := by
      unfold Yx at h
      split at h
      · exact absurd (by decide) h
      · split at h
        · exact absurd (by decide) h
        · omega
    have hlm := hf.len
    obtain ⟨s1, s2, s3⟩ := Zar { f with er := f.er + 1 }
    obtain ⟨l0, l1⟩ := Zbs (f := { f with er := f.er + 1 }) hf.l0 hf.l1
    have hpk := Wy { f with er := f.er + 1 }
    unfold YX
    have hbb : ∀ z ∈ (if !(flFails { f with er := f.er + 1 }).down || decide (f.picks.length = 0) then f.b.take (at_.toNat * 256) ++ List.replicate 256 255 ++ f.b.drop (at_.toNat * 256 + 256) else orTo f.picks f.b (at_.toNat * 256) 256), z < 256 := by
      split
      · intro z hz
        rcases List.mem_append.1 hz with hz | hz
        · rcases List.mem_append.1 hz with hz | hz
          · exact hf.bs z (List.mem_of_mem_take hz)
          · rw [List.eq_of_mem_replicate hz]; decide
        · exact hf.bs z (List.mem_of_mem_drop hz)
      · exact Zdi hf.bs hf.ps _ _
    have hbl : (if !(flFails { f with er := f.er + 1 }).down || decide (f.picks.length = 0) then f.b.take (at_.toNat * 256) ++ List.replicate 256 255 ++ f.b.drop (at_.toNat * 256 + 256) else orTo f.picks f.b (at_.toNat * 256) 256).length = f.b.length := by
      split
      · simp only [List.length_append, List.length_take, List.length_replicate, List.length_drop]; omega
      · exact VS _ _ _ _
    generalize (if !(flFails { f with er := f.er + 1 }).down || decide (f.picks.length = 0) then f.b.take (at_.toNat * 256) ++ List.replicate 256 255 ++ f.b.drop (at_.toNat * 256 + 256) else orTo f.picks f.b (at_.toNat * 256) 256) = B at hbb hbl ⊢
    have hpr := hf.pr
    have hst := hf.st
    refine ⟨⟨hbb, by rw [hpk]; exact hf.ps, by simp only [hbl]; exact hf.len, by simp only [hbl]; exact hf.lo, by simp only [hbl]; exact hf.hi, by rw [hpk]; exact hf.pl, ?_, ?_, ?_, l0, l1⟩, ?_, hbl, s1, s2⟩
    · simp only [s2]; exact hpr
    · simp only [s3]; exact he
    · simp only [s1]; exact hst
    · simp only [s3]; exact Nat.le_refl _
def K0 : Fl := flNew (List.replicate (256 * 4) 255)
def K1 : Fl := (Yp K0 5 15).1
def K2 : Fl := (Yp K1 5 243).1
def K3 : Fl := (flFuse K2 1 [48]).1
end Iv
namespace Iv
abbrev Jq (b : List Nat) (bk : Nat) : Prop := Yg ((b.drop (bk * 256)).take 256) = 0
def Zbt (b : List Nat) : Prop := ∀ bk, bk < b.length / 256 → ¬ Jq b bk
def Wn (b : List Nat) (bk : Nat) : Bool := JN b (WC b bk 0).2 bk
def NumB (b : List Nat) (N : Nat) : Prop := ∀ bk sl, bk < b.length / 256 → sl < 10 → X1 (slotB b bk sl) = false → (enB b bk sl).num ≤ N
theorem scStep_2 (b : List Nat) (but : Int) (bk : Nat) (n n' : Nat) (P : List En) (sl : Nat) : (WM b but bk (n, P) sl).2 = (WM b but bk (n', P) sl).2 := by
  unfold WM; split <;> rfl
theorem Zmu (b : List Nat) (but : Int) (bk : Nat) (n n' : Nat) (P : List En) : ∀ k, (XY b but bk (n, P) k).2 = (XY b but bk (n', P) k).2
  | 0 => rfl
  | k + 1 => by
    rw [YS, YS]
    have ih := Zmu b but bk n n' P k
    obtain ⟨a, hA⟩ : ∃ a, XY b but bk (n, P) k = a := ⟨_, rfl⟩
    obtain ⟨c, hC⟩ : ∃ c, XY b but bk (n', P) k = c := ⟨_, rfl⟩
    rw [hA, hC] at ih ⊢
    obtain ⟨a1, a2⟩ := a
    obtain ⟨c1, c2⟩ := c
    simp only at ih
    subst ih
    exact scStep_2 b but bk a1 c1 a2 k
theorem scTo_2 (b : List Nat) (but : Int) (n n' : Nat) : ∀ k, (Zdb b but n k).2 = (Zdb b but n' k).2
  | 0 => rfl
  | k + 1 => by
    rw [VV, VV]
    have ih := scTo_2 b but n n' k
    obtain ⟨a, hA⟩ : ∃ a, Zdb b but n k = a := ⟨_, rfl⟩
    obtain ⟨c, hC⟩ : ∃ c, Zdb b but n' k = c := ⟨_, rfl⟩
    rw [hA, hC] at ih ⊢
    obtain ⟨a1, a2⟩ := a
    obtain ⟨c1, c2⟩ := c
    simp only at ih
    subst ih
    exact Zmu b but k a1 c1 a2 10
theorem scan_2 (b : List Nat) (but : Int) (n n' : Nat) : (WC b but n).2 = (WC b but n').2 := scTo_2 b but n n' _
theorem Zlp {b : List Nat} {N : Nat} (hN : NumB b N) {but : Int} {bk sl : Nat} (h1 : bk < b.length / 256) (h2 : sl < 10) {s : Nat × List En} (hs : s.1 ≤ N) : (WM b but bk s sl).1 ≤ N := by
  unfold WM
  split
  · exact hs
  · rename_i h
    have hb : X1 (slotB b bk sl) = false := by
      cases h' : X1 (slotB b bk sl) with
      | false => rfl
      | true => exact absurd (.inl h') h
    exact Nat.max_le.2 ⟨hs, hN bk sl h1 h2 hb⟩
theorem Zgm {b : List Nat} {N : Nat} (hN : NumB b N) {but : Int} {bk : Nat} (h1 : bk < b.length / 256) {s : Nat × List En} (hs : s.1 ≤ N) : ∀ k, k ≤ 10 → (XY b but bk s k).1 ≤ N
  | 0, _ => hs
  | k + 1, h => by rw [YS]; exact Zlp hN h1 (by omega) (Zgm hN h1 hs k (by omega))
theorem Zjx {b : List Nat} {N : Nat} (hN : NumB b N) {but : Int} {n : Nat} (hn : n ≤ N) : ∀ k, k ≤ b.length / 256 → (Zdb b but n k).1 ≤ N
  | 0, _ => hn
  | k + 1, h => by rw [VV]; exact Zgm hN (by omega) (Zjx hN hn k (by omega)) 10 (by omega)
theorem Zey {b : List Nat} {N : Nat} (hN : NumB b N) {but : Int} {n : Nat} (hn : n ≤ N) : (WC b but n).1 ≤ N := Zjx hN hn _ (Nat.le_refl _)
def Zbu (f1 f2 : Fl) (bk : Nat) : Prop := bk < f1.b.length / 256 ∧ ((f2 = f1 ∧ Jq f1.b bk) ∨ (Zbt f1.b ∧ Wn f1.b bk = true ∧ Yh f1 (bk : Int) = (f2, 0)))
end Iv
theorem Open_ok (f : Fl) (hf : f.Ok) (bf : Nat) (rb : Option Nat) (cb : Nat) (rp : Option Nat) (cp : Nat) (S : List Nat) (w0 : World) (hown : Own w0 S w0 (FlH bf rb cb rp cp f)) (hst : f.st + 1 < 4611686018427387904) (her : f.er + 2 < 4611686018427387904) (hdn : f.down = false) : Sp Tryz.prog 28 [.pointer (some ⟨bf, 0, none⟩)] w0 S (fun v L => (∃ (bs bm : Nat) (m : List (ME He)) (nb : Nat) (T : List HL) (num num0 : Nat) (f2 : Fl) (bk : Nat), v = .tuple #[.pointer (some ⟨bs, 0, none⟩), .int .i64 0] ∧ Zbu { f with st := f.st + 1 } f2 bk ∧ f2.Ok ∧ f2.b.length = f.b.length ∧ (∀ N, NumB f.b N → num0 ≤ N) ∧ (num, plain m) = WC f2.b (-1) num0 ∧ num < 4294967296 ∧ MSt m nb T ∧ L = (.blk bs [.bool true, .pointer (some ⟨bf, 0, none⟩), natV (f.st + 1), .map (some bm), .int .u32 ((num : Nat) : Int), .int .i64 ((bk : Nat) : Int)] 138 :: .obj bm (Xo HV m nb) :: (FlH bf rb cb rp cp f2 ++ T))) ∨ (∃ bk : Nat, bk < f.b.length / 256 ∧ Zbt f.b ∧ Wn f.b bk = true ∧ (Yh { f with st := f.st + 1 } (bk : Int)).2 ≠ 0 ∧ v = .tuple #[.pointer none, .int .i64 (Yh { f with st := f.st + 1 } (bk : Int)).2] ∧ L = FlH bf rb cb rp cp (Yh { f with st := f.st + 1 } (bk : Int)).1) ∨ (Zbt f.b ∧ (∀ bk, bk < f.b.length / 256 → Wn f.b bk = false) ∧ v = .tuple #[.pointer none, .int .i64 6] ∧ L = FlH bf rb cb rp cp { f with st := f.st + 1 })) := by
  have hbl := hf.hi
  have hbl0 := hf.lo
  have hblm := hf.len
  refine ZA Tryz.func28 rfl Tryz.ntmps28 rfl hown ?_
  simp only [ZT]
  refine Zb <| Za <| gas rfl rfl <| gas rfl rfl <| gA <| Zb <| ZC <| Zb <| Za <| gm rfl rfl <| Zl (ZD rfl (vf := []) (vc := []) rfl rfl Tryz.call38 (fun w1 ho => none_q f hf bf rb cb rp cp w1 (ho.blkCells 0 rfl)) ?_)
  rintro _ _ ⟨rfl, rfl⟩
  refine gas rfl rfl <| gA <| Zk rfl <| Zb <| Za <| gm rfl rfl <| gnc rfl rfl <| gr rfl (Zd rfl (XJ _)) <| gr rfl (Zh Tryz.underlying4 rfl rfl (by exact Zo 0 rfl rfl)) ?_
  refine Z3 (fun hd => ?_) (fun hd => ?_)
  · rw [hdn] at hd; cases hd
  refine gas rfl rfl <| gA <| Zk rfl <| Zu <| ZM <| Ze <| Zb <| Za <| gm rfl rfl <| gnc rfl rfl <| gr rfl (Zd rfl (Zbj _)) <| gr rfl (Zh Tryz.underlying3 rfl rfl (by exact Zo 0 rfl rfl)) ?_
  refine gr rfl (by exact ZQ (b := 1) rfl rfl (by omega)) ?_
  refine gnc rfl rfl <| gr rfl (Zd rfl (Zbj _)) <| Zl (Z7 0 Xu rfl rfl rfl rfl rfl (by rfl) (by rfl) ?_)
  refine gA <| Zb ?_
  have hf1 : ({ f with st := f.st + 1 } : Fl).Ok := ⟨hf.bs, hf.ps, hf.len, hf.lo, hf.hi, hf.pl, hf.pr, hf.er, hst, hf.l0, hf.l1⟩
  change GK _ _ _ _ _ _ [.blk bf (Fl.cells { f with st := f.st + 1 } rb cb rp cp) 115, .row 5 1 rb (Fl.b { f with st := f.st + 1 }).length cb ((Fl.b { f with st := f.st + 1 }).map u8V), .row 5 1 rp (Fl.picks { f with st := f.st + 1 }).length cp ((Fl.picks { f with st := f.st + 1 }).map u8V)]
  obtain ⟨f1, hf1e⟩ : ∃ f1, f1 = ({ f with st := f.st + 1 } : Fl) := ⟨_, rfl⟩
  rw [← hf1e] at hf1 ⊢
  have hb1 : f1.b = f.b := by rw [hf1e]
  have hls : f1.b.length = f.b.length := by rw [hb1]
  have hst1 : f1.st = f.st + 1 := by rw [hf1e]
  have hm1 : f1.er ≤ f.er := by rw [hf1e]; exact Nat.le_refl _
  refine Za <| gm rfl rfl <| gm rfl rfl <| gnc rfl rfl <| gr rfl (Zd rfl (Zbj _)) <| gr rfl (Zh Tryz.underlying3 rfl rfl (by exact Zo 0 rfl rfl)) ?_
  refine gr rfl (ZJ rfl (fun _ => Zek _ _ _ _)) ?_
  refine Zl (Yc rfl rfl rfl (fun b29 => ?_))
  refine gas rfl rfl <| gA <| Zb <| Zb <| Za <| gm rfl rfl <| Zl (ZD rfl (vf := []) (vc := []) rfl rfl Tryz.call41 (fun w1 ho => VT f1 hf1 bf rb cb rp cp w1 (ho.blkCells 1 rfl)) ?_)
  rintro _ _ ⟨rfl, rfl⟩
  refine gm rfl rfl <| gA <| ZC <| Z0 (ι := Nat × Int) [(0, _), (4, _), (31, _)] [_, _, _] (fun j => j.1 ≤ f1.b.length / 256 ∧ ((j.2 = -1 ∧ ∀ bk, bk < j.1 → ¬ Jq f1.b bk) ∨ ∃ bk : Nat, j.2 = (bk : Int) ∧ bk < f1.b.length / 256 ∧ Jq f1.b bk)) (fun j Fr0 => ((32, natV j.1) :: Fr0)) (fun j Fr0 => (.blk b29 [.bool true, .pointer (some ⟨bf, 0, none⟩), natV f1.st, .map none, .int .u32 ((0 : Nat) : Int), .int .i64 j.2] 138 :: Fr0)) (fun j => f1.b.length / 256 - j.1) (0, -1) (⟨Nat.zero_le _, .inl ⟨rfl, fun bk h => absurd h (Nat.not_lt_zero _)⟩⟩) ⟨rfl, rfl, rfl, rfl, trivial⟩ ⟨[0, 1, 2, 3], by decide, rfl⟩ ?_
  rintro ⟨j, fr⟩ ⟨hj, hfr⟩
  simp only at hj hfr ⊢
  refine Zb <| Za <| gr rfl (Z2 rfl rfl) (Zx (fun h33 => ?_) (fun h33 => ?_))
  · refine gA <| Zb <| Zj rfl <| Zu <| Ze <| Zb <| ZC <| Zb <| Za <| gm rfl rfl <| gas rfl rfl <| gA <| Zb <| Za <| gm rfl rfl <| gm rfl rfl <| Zl (Yf [1, 2, 3] [0] rfl (vf := []) (vc := []) rfl rfl Tryz.call69 (by decide) rfl (fun w how hc => Zlk f1 hf1 bf rb cb rp cp _ w hc j (by omega)) ?_)
    rintro _ _ ⟨rfl, rfl⟩
    refine Z3 (fun hem => ?_) (fun hem => ?_)
    · refine gA <| Zj rfl <| Za <| gm rfl rfl <| gm rfl rfl <| gnc rfl rfl <| gr rfl (Zd rfl (X9 _)) <| Zl (Z7 3 Xu rfl rfl rfl rfl rfl (by rfl) (by rfl) ?_)
      refine ZU <| ZM <| Ze <| Za <| gr rfl (by exact ZQ (b := 1) rfl rfl (by omega)) ?_
      refine gm rfl rfl <| ZU <| Ze ?_
      exact ZZ ((j + 1, (j : Int))) ⟨⟨by simp only; omega, .inr ⟨j, rfl, by omega, of_decide_eq_true hem⟩⟩, by simp only; omega⟩ ⟨rfl, rfl, rfl, rfl, trivial⟩ ⟨[3, 0, 1, 2], by decide, rfl⟩
    refine gA <| Zk rfl <| Zu <| ZM <| Ze <| Za <| gr rfl (by exact ZQ (b := 1) rfl rfl (by omega)) ?_
    refine gm rfl rfl <| ZU <| Ze ?_
    exact ZZ ((j + 1, fr)) ⟨⟨by simp only; omega, by rcases hfr with ⟨h1, h2⟩ | h; exact .inl ⟨h1, fun bk hbk => by simp only at hbk; rcases (show bk < j ∨ bk = j by omega) with h3 | h3; exact h2 bk h3; rw [h3]; exact of_decide_eq_false hem⟩; exact .inr h⟩, by simp only; omega⟩ ⟨rfl, rfl, rfl, rfl, trivial⟩ ⟨[3, 0, 1, 2], by decide, rfl⟩
  refine gA <| Zb <| Zk rfl <| Z1 <| Zr <| Zr <| ZE <| Ze <| Zb <| Zb ?_
  have hfr2 : fr = -1 ∧ Zbt f1.b ∨ ∃ bk : Nat, fr = (bk : Int) ∧ bk < f1.b.length / 256 ∧ Jq f1.b bk := by
    rcases hfr with ⟨h1, h2⟩ | h
    · exact .inl ⟨h1, fun bk hbk => h2 bk (by omega)⟩
    · exact .inr h
  clear hfr
  have hne : fr < 0 → Zbt f1.b := fun h => by
    rcases hfr2 with ⟨_, h2⟩ | ⟨bk, h1, _⟩
    · exact h2
    · omega
  refine Za <| gas rfl rfl <| gA <| ZC <| Z0 (ι := Nat × Option Nat × Nat × Fl × Int) [(0, _), (4, _)] [] (fun i => i.1 ≤ f1.b.length / 256 ∧ i.2.2.1 < 4294967296 ∧ (∀ N, NumB f1.b N → i.2.2.1 ≤ N) ∧ i.2.2.2.1.Ok ∧ i.2.2.2.1.b.length = f1.b.length ∧ i.2.2.2.1.er ≤ f.er + 1 ∧ ((i.2.2.2.1 = f1 ∧ i.2.2.2.2 = fr ∧ (fr < 0 → ∀ bk, bk < i.1 → Wn f1.b bk = false)) ∨ (fr < 0 ∧ ∃ bk : Nat, bk < f1.b.length / 256 ∧ i.2.2.2.2 = (bk : Int) ∧ Wn f1.b bk = true ∧ Yh f1 (bk : Int) = (i.2.2.2.1, 0)))) (fun i Fr0 => ((6, natV i.1) :: Fr0)) (fun i Fr0 => (.blk b29 [.bool true, .pointer (some ⟨bf, 0, none⟩), natV f1.st, .map i.2.1, .int .u32 ((i.2.2.1 : Nat) : Int), .int .i64 i.2.2.2.2] 138 :: .blk bf (Fl.cells i.2.2.2.1 rb cb rp cp) 115 :: .row 5 1 rb (Fl.b i.2.2.2.1).length cb ((Fl.b i.2.2.2.1).map u8V) :: .row 5 1 rp (Fl.picks i.2.2.2.1).length cp ((Fl.picks i.2.2.2.1).map u8V) :: Fr0)) (fun i => f.b.length / 256 - i.1) (0, none, 0, f1, fr) (⟨Nat.zero_le _, (by decide : (0 : Nat) < 4294967296), fun _ _ => Nat.zero_le _, hf1, rfl, (Nat.le_succ_of_le hm1), .inl ⟨rfl, rfl, fun _ bk h => absurd h (Nat.not_lt_zero _)⟩⟩) ⟨rfl, rfl, rfl, trivial⟩ ⟨[0, 1, 2, 3], by decide, rfl⟩ ?_
  rintro ⟨j, mv, nu, f2, fr2⟩ ⟨hj, hnul, hnu, hf2, hl2, her2, hcase⟩
  simp only at hj hnul hnu hf2 hl2 her2 hcase ⊢
  refine Zb <| Zb <| Za <| gm rfl rfl <| gm rfl rfl <| Zl (ZD rfl (vf := []) (vc := []) rfl rfl Tryz.call41 (fun w1 ho => VT f2 hf2 bf rb cb rp cp w1 (ho.blkCells 1 rfl)) ?_)
  rintro _ _ ⟨rfl, rfl⟩
  refine gr rfl (Z2 rfl rfl) (Zx (fun h46 => ?_) (fun h46 => ?_))
  · refine gm rfl rfl <| Zi rfl rfl <| Zn rfl (Zm rfl) <| Zi rfl rfl <| Zn rfl (ZI rfl) <| Zi rfl rfl <| Zn rfl (Zd rfl (X9 _)) <| Zi rfl rfl (Zn rfl (Zh Tryz.underlying3 rfl rfl (by exact Zo 0 rfl rfl)) ?_)
    refine Zi rfl rfl (Zn rfl (Z2 rfl rfl) (Zx (fun h52 => ?_) (fun h52 => ?_)))
    · obtain ⟨rfl, rfl, hns⟩ : f1 = f2 ∧ fr = fr2 ∧ (fr < 0 → ∀ bk, bk < j → Wn f1.b bk = false) := by
        rcases hcase with h | ⟨_, bk, _, h3, _⟩
        · exact ⟨h.1.symm, h.2.1.symm, h.2.2⟩
        · omega
      clear hcase
      have hfr0 := h52
      refine gr rfl (ZB rfl rfl) <| gA <| Zj rfl <| Zu <| Ze <| Zb <| ZC <| Zb <| Za <| gm rfl rfl <| gm rfl rfl <| Zl (Yf [0, 1, 2, 3] [] rfl (vf := []) (vc := []) rfl rfl Tryz.call70 (by decide) rfl (fun w how hc => Zh2 f1 hf1 b29 bf rb cb rp cp f1.st nu mv fr (j : Int) _ w hc hnul) ?_)
      rintro _ _ ⟨bm, m, nb, T, nu2, rfl, hms, hsc, hnu2, rfl⟩
      refine Je [_, _, _, _, _] T [] <| gA <| Zb <| Za <| gm rfl rfl <| gm rfl rfl <| Zl (Yl [_, _, _, _, _] T [0, 1, 2, 3, 4] [] 5 rfl rfl rfl (vf := []) (vc := []) rfl rfl Tryz.call71 (by decide) (by decide) rfl (fun w how hc => spare_ok f1 hf1 b29 bf rb cb rp cp f1.st bm nu2 fr m nb T hms _ w hc j (by omega)) ?_)
      rintro _ _ ⟨rfl, rfl⟩
      rw [show plain m = (WC f1.b j 0).2 by rw [← scan_2 f1.b j nu 0, ← hsc]]
      refine Z3 (fun hsp => ?_) (fun hsp => ?_)
      · refine gA <| Zj rfl <| Zb <| Zb <| Za <| gm rfl rfl <| gr rfl (Zm rfl) ?_
        obtain ⟨e1, e2, e3, e4, e5⟩ := Zck hf1 (by omega) (j : Int)
        refine Zl (Yl [_, _, _, _, _] T [2, 3, 4] [0, 1] 5 rfl rfl rfl (vf := []) (vc := []) rfl rfl Tryz.call72 (by decide) (by decide) rfl (fun w how hc => Zju f1 hf1 bf rb cb rp cp _ w hc (j : Int)) ?_)
        rintro _ _ ⟨rfl, rfl⟩
        refine gas rfl rfl <| gA <| Zb <| Za <| gm rfl rfl <| gr rfl (ZX rfl rfl) (Zx (fun h66 => ?_) (fun h66 => ?_))
        · refine gA <| Zj rfl <| Zb <| Za <| gm rfl rfl <| gas rfl rfl <| gas rfl rfl <| gA <| Zp <| Zg <| Zw <| Zg <| Zg <| Zw <| Zg <| YI (.inl rfl) Tryz.results28 rfl rfl [0, 1, 2] (by decide) ?_
          subst hf1e
          exact .inr (.inl ⟨j, by simp only at *; omega, hne (by omega), hsp, h66, rfl, rfl⟩)
        have he0 : (Yh f1 (j : Int)).2 = 0 := Decidable.byContradiction h66
        refine gA <| Zk rfl <| Zu <| Ze <| Za <| gm rfl rfl <| gm rfl rfl <| gnc rfl rfl <| gr rfl (Zd rfl (X9 _)) <| Zl (Z7 3 Xu rfl rfl rfl rfl rfl (by rfl) (by rfl) ?_)
        refine ZU <| ZM <| Ze <| Za <| gm rfl rfl <| gr rfl (by exact ZQ (b := 1) rfl rfl (by omega)) ?_
        refine gas rfl rfl <| ZU <| Ze ?_
        exact ZZ ((j + 1, some bm, nu2, (Yh f1 (j : Int)).1, (j : Int))) ⟨⟨by simp only; omega, hnu2, (fun N hN => by rw [show nu2 = (WC f1.b j nu).1 by rw [← hsc]]; exact Zey hN (hnu N hN)), e1, e3, by simp only; omega, .inr ⟨hfr0, j, by omega, rfl, hsp, by rw [← he0]⟩⟩, by simp only; omega⟩ ⟨rfl, rfl, rfl, trivial⟩ (Ziy (A := [_, _, _, _]) (B := [_, _, _, _, _]) (T := T) [3, 0, 1, 2] 5 (by decide) (by decide) rfl rfl)
      refine gA <| Zk rfl <| Zu <| ZM <| Ze <| Za <| gm rfl rfl <| gr rfl (by exact ZQ (b := 1) rfl rfl (by omega)) ?_
      refine gas rfl rfl <| ZU <| Ze ?_
      exact ZZ ((j + 1, some bm, nu2, f1, fr)) ⟨⟨by simp only; omega, hnu2, (fun N hN => by rw [show nu2 = (WC f1.b j nu).1 by rw [← hsc]]; exact Zey hN (hnu N hN)), hf1, rfl, (Nat.le_succ_of_le hm1), .inl ⟨rfl, rfl, fun h bk hbk => by simp only at hbk; rcases (show bk < j ∨ bk = j by omega) with h2 | h2; exact hns h bk h2; rw [h2]; exact hsp⟩⟩, by simp only; omega⟩ ⟨rfl, rfl, rfl, trivial⟩ (Ziy (A := [_, _, _, _]) (B := [_, _, _, _, _]) (T := T) [0, 2, 3, 4] 5 (by decide) (by decide) rfl rfl)
    refine gr rfl (ZB rfl rfl) <| gA <| Zk rfl <| Z1 <| Zr <| Zr <| ZE <| Ze <| Zb <| Zb <| Za <| gm rfl rfl <| gnc rfl rfl <| gr rfl (Zd rfl (X9 _)) <| gr rfl (Zh Tryz.underlying3 rfl rfl (by exact Zo 0 rfl rfl)) ?_
    refine gr rfl (Z2 rfl rfl) (Zx (fun h76 => ?_) (fun h76 => ?_))
    · refine gA <| Zj rfl <| Zb <| Za <| gas rfl rfl <| gas rfl rfl <| gA <| Zp <| Zg <| YI (.inl rfl) Tryz.results28 rfl rfl [1, 2, 3] (by decide) ?_
      obtain ⟨rfl, rfl, hns⟩ : f1 = f2 ∧ fr = fr2 ∧ (fr < 0 → ∀ bk, bk < j → Wn f1.b bk = false) := by
        rcases hcase with h | ⟨_, bk, _, h3, _⟩
        · exact ⟨h.1.symm, h.2.1.symm, h.2.2⟩
        · omega
      subst hf1e
      exact .inr (.inr ⟨hne h76, fun bk hbk => hns h76 bk (by omega), rfl, rfl⟩)
    refine gA <| Zk rfl <| Zu <| Ze <| Zb <| Za <| gm rfl rfl <| Zl (Yf [0, 1, 2, 3] [] rfl (vf := []) (vc := []) rfl rfl Tryz.call70 (by decide) rfl (fun w how hc => Zh2 f2 hf2 b29 bf rb cb rp cp f1.st nu mv fr2 (-1) _ w hc hnul) ?_)
    rintro _ _ ⟨bm, m, nb, T, nu2, rfl, hms, hsc, hnu2, rfl⟩
    refine Je [_, _, _, _, _] T [] <| gA <| Zb <| Za <| gm rfl rfl <| gas rfl rfl <| gas rfl rfl <| gA <| Zp <| Y5 (.inl rfl) Tryz.results28 rfl rfl (Yo 0 rfl) ?_
    obtain ⟨bk, hbe, hop⟩ : ∃ bk : Nat, fr2 = (bk : Int) ∧ Zbu f1 f2 bk := by
      rcases hcase with ⟨h1, h2, h3⟩ | ⟨h0, bk, h1, h2, h3, h4⟩
      · rcases hfr2 with ⟨h4, _⟩ | ⟨bk, h4, h5, h6⟩
        · omega
        · exact ⟨bk, by omega, h5, .inl ⟨h1, h6⟩⟩
      · exact ⟨bk, h2, h1, .inr ⟨hne h0, h3, h4⟩⟩
    subst hbe
    subst hf1e
    exact .inl ⟨b29, bm, m, nb, T, nu2, nu, f2, bk, rfl, hop, hf2, hl2, hnu, hsc, hnu2, hms, rfl⟩
  refine gm rfl rfl <| Zs rfl rfl rfl <| Zs rfl rfl rfl <| Zs rfl rfl rfl <| Zs rfl rfl rfl <| Zs rfl rfl rfl <| gr rfl (Zq rfl rfl) <| gA <| Zk rfl <| Z1 <| Zr <| Zr <| ZE <| Ze <| Zb <| Zb <| Za <| gm rfl rfl <| gnc rfl rfl <| gr rfl (Zd rfl (X9 _)) <| gr rfl (Zh Tryz.underlying3 rfl rfl (by exact Zo 0 rfl rfl)) ?_
  refine gr rfl (Z2 rfl rfl) (Zx (fun h76 => ?_) (fun h76 => ?_))
  · refine gA <| Zj rfl <| Zb <| Za <| gas rfl rfl <| gas rfl rfl <| gA <| Zp <| Zg <| YI (.inl rfl) Tryz.results28 rfl rfl [1, 2, 3] (by decide) ?_
    obtain ⟨rfl, rfl, hns⟩ : f1 = f2 ∧ fr = fr2 ∧ (fr < 0 → ∀ bk, bk < j → Wn f1.b bk = false) := by
      rcases hcase with h | ⟨_, bk, _, h3, _⟩
      · exact ⟨h.1.symm, h.2.1.symm, h.2.2⟩
      · omega
    subst hf1e
    exact .inr (.inr ⟨hne h76, fun bk hbk => hns h76 bk (by omega), rfl, rfl⟩)
  refine gA <| Zk rfl <| Zu <| Ze <| Zb <| Za <| gm rfl rfl <| Zl (Yf [0, 1, 2, 3] [] rfl (vf := []) (vc := []) rfl rfl Tryz.call70 (by decide) rfl (fun w how hc => Zh2 f2 hf2 b29 bf rb cb rp cp f1.st nu mv fr2 (-1) _ w hc hnul) ?_)
  rintro _ _ ⟨bm, m, nb, T, nu2, rfl, hms, hsc, hnu2, rfl⟩
  refine Je [_, _, _, _, _] T [] <| gA <| Zb <| Za <| gm rfl rfl <| gas rfl rfl <| gas rfl rfl <| gA <| Zp <| Y5 (.inl rfl) Tryz.results28 rfl rfl (Yo 0 rfl) ?_
  obtain ⟨bk, hbe, hop⟩ : ∃ bk : Nat, fr2 = (bk : Int) ∧ Zbu f1 f2 bk := by
    rcases hcase with ⟨h1, h2, h3⟩ | ⟨h0, bk, h1, h2, h3, h4⟩
    · rcases hfr2 with ⟨h4, _⟩ | ⟨bk, h4, h5, h6⟩
      · omega
      · exact ⟨bk, by omega, h5, .inl ⟨h1, h6⟩⟩
    · exact ⟨bk, h2, h1, .inr ⟨hne h0, h3, h4⟩⟩
  subst hbe
  subst hf1e
  exact .inl ⟨b29, bm, m, nb, T, nu2, nu, f2, bk, rfl, hop, hf2, hl2, hnu, hsc, hnu2, hms, rfl⟩
end Go.Proofs.YthcbcdjkfefnlaaGreatDoor
namespace Go.Proofs.YthcbcdjkfefnlaaGreatDoor
open Go.Gv
open Go.RowKit Go.Shelf Go.Sort
def sortRen : Ren := ⟨fun x => match x with | 189 => 92 | 125 => 118 | 257 => 117 | 128 => 140 | 129 => 141 | 294 => 131 | 295 => 132 | 296 => 133 | 297 => 134 | 298 => 135 | 299 => 136 | 216 => 137 | 300 => 138 | 301 => 139 | 328 => 146 | 329 => 147 | 330 => 148 | 331 => 149 | 332 => 150 | 215 => 151 | 343 => 158 | n => n, fun x => match x with | 28 => 24 | 3 => 3 | 46 => 192 | 0 => 0 | 51 => 136 | 53 => 207 | 4 => 4 | 183 => 215 | 182 => 214 | 131 => 219 | 5 => 5 | 9 => 9 | 218 => 225 | 222 => 229 | 228 => 236 | 229 => 237 | n => n, fun x => x⟩
theorem sortLaid : Lays.n189 Tryz.prog sortRen := { mixed := by kernel_rfl, f125 := Eq.trans Tryz.func118 (congrArg some (by kernel_rfl)), f128 := Eq.trans Tryz.func140 (congrArg some (by kernel_rfl)), f129 := Eq.trans Tryz.func141 (congrArg some (by kernel_rfl)), f189 := Eq.trans Tryz.func92 (congrArg some (by kernel_rfl)), f215 := Eq.trans Tryz.func151 (congrArg some (by kernel_rfl)), f216 := Eq.trans Tryz.func137 (congrArg some (by kernel_rfl)), f257 := Eq.trans Tryz.func117 (congrArg some (by kernel_rfl)), f294 := Eq.trans Tryz.func131 (congrArg some (by kernel_rfl)), f295 := Eq.trans Tryz.func132 (congrArg some (by kernel_rfl)), f296 := Eq.trans Tryz.func133 (congrArg some (by kernel_rfl)), f297 := Eq.trans Tryz.func134 (congrArg some (by kernel_rfl)), f298 := Eq.trans Tryz.func135 (congrArg some (by kernel_rfl)), f299 := Eq.trans Tryz.func136 (congrArg some (by kernel_rfl)), f300 := Eq.trans Tryz.func138 (congrArg some (by kernel_rfl)), f301 := Eq.trans Tryz.func139 (congrArg some (by kernel_rfl)), f328 := Eq.trans Tryz.func146 (congrArg some (by kernel_rfl)), f329 := Eq.trans Tryz.func147 (congrArg some (by kernel_rfl)), f330 := Eq.trans Tryz.func148 (congrArg some (by kernel_rfl)), f331 := Eq.trans Tryz.func149 (congrArg some (by kernel_rfl)), f332 := Eq.trans Tryz.func150 (congrArg some (by kernel_rfl)), f343 := Eq.trans Tryz.func158 (congrArg some (by kernel_rfl)), t0 := Tryz.underlying0, a0 := Tryz.isAgg0, z0 := Tryz.sizeOf0, v0 := Tryz.zeroValue0, t3 := Tryz.underlying3, a3 := Tryz.isAgg3, z3 := Tryz.sizeOf3, v3 := Tryz.zeroValue3, t4 := Tryz.underlying4, a4 := Tryz.isAgg4, z4 := Tryz.sizeOf4, v4 := Tryz.zeroValue4, t5 := Tryz.underlying5, a5 := Tryz.isAgg5, z5 := Tryz.sizeOf5, v5 := Tryz.zeroValue5, t9 := Tryz.underlying9, a9 := Tryz.isAgg9, z9 := Tryz.sizeOf9, v9 := Tryz.zeroValue9, t28 := Tryz.underlying24, a28 := Tryz.isAgg24, z28 := Tryz.sizeOf24, v28 := Tryz.zeroValue24, t46 := Tryz.underlying192, a46 := Tryz.isAgg192, z46 := Tryz.sizeOf192, v46 := Tryz.zeroValue192, t51 := Tryz.underlying136, a51 := Tryz.isAgg136, z51 := Tryz.sizeOf136, v51 := Tryz.zeroValue136, t53 := Tryz.underlying207, a53 := Tryz.isAgg207, z53 := Tryz.sizeOf207, v53 := Tryz.zeroValue207, t131 := Tryz.underlying219, a131 := Tryz.isAgg219, z131 := Tryz.sizeOf219, v131 := Tryz.zeroValue219, t182 := Tryz.underlying214, a182 := Tryz.isAgg214, z182 := Tryz.sizeOf214, v182 := Tryz.zeroValue214, t183 := Tryz.underlying215, a183 := Tryz.isAgg215, z183 := Tryz.sizeOf215, v183 := Tryz.zeroValue215, t218 := Tryz.underlying225, a218 := Tryz.isAgg225, z218 := Tryz.sizeOf225, v218 := Tryz.zeroValue225, t222 := Tryz.underlying229, a222 := Tryz.isAgg229, z222 := Tryz.sizeOf229, v222 := Tryz.zeroValue229, t228 := Tryz.underlying236, a228 := Tryz.isAgg236, z228 := Tryz.sizeOf236, v228 := Tryz.zeroValue236, t229 := Tryz.underlying237, a229 := Tryz.isAgg237, z229 := Tryz.sizeOf237, v229 := Tryz.zeroValue237 }
end Go.Proofs.YthcbcdjkfefnlaaGreatDoor
namespace Go.Proofs.YthcbcdjkfefnlaaGreatDoor
open Go.Gv
open Go.RowKit
open Iv
namespace Iv
def srt (xs : List Nat) : List Nat := xs.mergeSort fun x y => decide (x ≤ y)
theorem Zh5 (xs : List Nat) : (srt xs).length = xs.length := (List.mergeSort_perm _ _).length_eq
theorem JP (xs : List Nat) : (srt xs).Perm xs := List.mergeSort_perm _ _
theorem Zas (xs : List Nat) : (srt xs).Pairwise (· ≤ ·) := by
  have h := List.pairwise_mergeSort (le := fun x y : Nat => decide (x ≤ y)) (fun a b c h1 h2 => decide_eq_true (Nat.le_trans (of_decide_eq_true h1) (of_decide_eq_true h2))) (fun a b => by rcases Nat.le_total a b with h | h <;> simp [h]) xs
  exact h.imp fun h => of_decide_eq_true h
theorem Zjy {xs ys : List Nat} (h : xs.Perm ys) : srt xs = srt ys :=
  List.Perm.eq_of_pairwise (le := (· ≤ ·)) (fun a b _ _ h1 h2 => Nat.le_antisymm h1 h2) (Zas xs) (Zas ys) ((JP xs).trans (h.trans (JP ys).symm))
theorem sortNatI (xs : List Nat) : (xs.map fun n : Nat => (n : Int)).mergeSort (fun x y => decide (x ≤ y)) = (xs.mergeSort fun x y => decide (x ≤ y)).map fun n : Nat => (n : Int) := by
  refine (List.map_mergeSort fun a _ b _ => ?_).symm
  rw [decide_eq_decide]; omega
theorem Zh6 (xs : List Nat) (r : Option Nat) (cp : Nat) (S : List Nat) (w0 : World) (hown : Own w0 S w0 [.row 3 1 r xs.length cp (xs.map natV)]) (hlen : xs.length ≤ 1000000000) :
    Sp Tryz.prog 92 [.slice (rowA r) xs.length cp] w0 S (fun v l => l = [.row 3 1 r xs.length cp ((srt xs).map natV)]) := by
  have h := Znz sortLaid (xs.map fun n : Nat => (n : Int)) r cp S w0 (by rw [List.length_map, List.map_map]; exact hown) (by rw [List.length_map]; exact hlen)
  rw [List.length_map, sortNatI, List.map_map] at h
  exact h
def Jw (ds : List (ME He)) : List Nat := ds.map fun y => y.v.en.key
def keysP (P : List En) : List Nat := srt (P.map En.key)
theorem Zlq (ds : List (ME He)) (y : ME He) : Jw (ds ++ [y]) = Jw ds ++ [y.v.en.key] := by simp [Jw]
theorem Zgn (ds : List (ME He)) : (Jw ds).length = ds.length := by simp [Jw]
theorem keys_perm {m ds : List (ME He)} (h : m.Perm ds) : srt (Jw ds) = keysP (plain m) := by
  unfold keysP plain
  rw [List.map_map]
  exact Zjy (List.Perm.map (fun y : ME He => y.v.en.key) h.symm)
theorem keysP_len (P : List En) : (keysP P).length = P.length := by rw [keysP, Zh5, List.length_map]
theorem Zdl {α : Type} : ∀ {l1 l2 : List α}, l1.Nodup → (∀ x ∈ l1, x ∈ l2) → l1.length ≤ l2.length
  | [], _, _, _ => Nat.zero_le _
  | x :: l1, l2, hn, h => by
    obtain ⟨a, b, rfl⟩ := List.append_of_mem (h x List.mem_cons_self)
    rw [List.nodup_cons] at hn
    have h1 := Zdl (l1 := l1) (l2 := a ++ b) hn.2 fun y hy => by
      have := h y (List.mem_cons_of_mem _ hy)
      rcases List.mem_append.1 this with h' | h'
      · exact List.mem_append_left _ h'
      · rcases List.mem_cons.1 h' with rfl | h'
        · exact absurd hy hn.1
        · exact List.mem_append_right _ h'
    simp only [List.length_append, List.length_cons] at h1 ⊢
    omega
theorem Zjz {m ds : List (ME He)} {nb : Nat} (hm : MOk m nb) (hn : (ds.map ME.born).Nodup) (hs : ∀ y ∈ ds, y ∈ m) {y : ME He} (hy : y ∈ m) (hyd : y ∉ ds) : ((ds ++ [y]).map ME.born).Nodup ∧ (∀ z ∈ ds ++ [y], z ∈ m) ∧ ds.length < m.length := by
  have h2 : ∀ z ∈ ds ++ [y], z ∈ m := fun z hz => by
    rcases List.mem_append.1 hz with h | h
    · exact hs z h
    · rw [List.mem_singleton.1 h]; exact hy
  have h1 : ((ds ++ [y]).map ME.born).Nodup := by
    rw [List.map_append, List.nodup_append]
    refine ⟨hn, by simp, fun a ha b hb e => ?_⟩
    simp at hb; subst hb; subst e
    obtain ⟨z, hz, e⟩ := List.mem_map.1 ha
    exact hyd (VA hm.borns (hs z hz) hy e ▸ hz)
  refine ⟨h1, h2, ?_⟩
  have := Zdl (X6 h1) h2
  simp at this
  omega
section
variable {dm : List Deferred} {P : Program} {n : Nat} {Q : Exit → Act → World → Prop} {K : Act → World → Prop} {e : Env} {w0 : World} {S : List Nat} {l : List HL} {d : Nat} {ty : TypeId} {pos : String} {aft : Array Edge} {gd : Option (Nat × Bool)}
theorem Zlr {t t2 E : TypeId} {z : Value} {bytes dLen dCap size : Nat} {x y : Operand} {ad : Addr} (hu : P.underlying t = some (.slice E)) (ht : TyF P E z size bytes) (hd : Nat.ble n d = false)
    (hx : e.ev x = some (.slice (some ad) dLen dCap)) (hy : e.ev y = some (.slice none 0 0)) (k : GK dm n K ((d, .int .i64 0) :: e) w0 S l) :
    GK dm n (fun a w => Oper.wp P ⟨some d, .call { callee := .builtin .copy, args := #[x, y], argTypes := #[t, t2] }, ty, pos, aft, gd⟩ a w K Q) e w0 S l := fun a w hs ho => by
  obtain ⟨ii, hi1, hi2, hi3, hi4⟩ := ht.ex
  have hr := run_copy_nil (P := P) w t t2 ty E ad dLen dCap hu (by rw [hi1]; rfl)
  have hr2 : (execOp a.eval ⟨some d, .call { callee := .builtin .copy, args := #[x, y], argTypes := #[t, t2] }, ty, pos, aft, gd⟩).run P w = .ok (.value (.int .i64 0)) w := by
    simp [execOp, resolve, invoke, builtin, hs.ev hx, hs.ev hy, hr, goInt]
  exact Y3 hr2 (k _ _ (hs.put (Y4 hd) _) ho)
end
theorem pk3_nil (b : List Nat) : pk3 [] b = b := by unfold pk3; simp
end Iv
theorem pack_nil (key num : Nat) (hk : key < 65536) (hnum : num < 4294967296) (w0 : World) : Sp Tryz.prog 190 [.agg #[natV key, .int .u32 (num : Int), .slice none 0 0]] w0 [] (fun v L => ∃ rr cr : Nat, v = .slice (some ⟨rr, 0, none⟩) 24 24 ∧ L = [.row 5 1 (some rr) 24 cr ((packP key num []).map u8V)]) := by
  refine ZA Tryz.func190 rfl Tryz.ntmps190 rfl (Own.refl _) ?_
  simp only [ZT]
  refine Zb <| Za <| Zl (Yc rfl rfl rfl (fun b1 => ?_))
  refine gas rfl rfl <| gA <| Zb <| Za <| Zl (ZK (sz := 1) rfl rfl (fun _ => VQ _) rfl rfl (fun b5 => ?_))
  refine Zl (ZD rfl (vf := []) (vc := []) rfl rfl Tryz.call76 (fun w2 ho => VR 255 24 (rowA (some b5)) 1 w2 (ho.rowSl 0 rfl) (by omega)) ?_)
  rintro _ _ ⟨rr, cr, rfl, rfl⟩
  refine gas rfl rfl <| gA <| Zb <| ZP [1, 2] false 19 rfl <| Zc 0 rfl rfl ⟨[1, 2], by decide, rfl⟩ (Zf (Zm rfl)) ?_
  refine Zc 1 rfl rfl ⟨[1, 2], by decide, rfl⟩ (Zf (Zm rfl)) ?_
  refine Zc 2 rfl rfl ⟨[1, 2], by decide, rfl⟩ (Zf (Zm rfl)) ?_
  refine Zc 3 rfl rfl ⟨[1, 2], by decide, rfl⟩ (Zf (Zd rfl (Y6 _))) ?_
  refine Zc 4 rfl rfl ⟨[1, 2], by decide, rfl⟩ (Zf (Zh Tryz.underlying3 rfl rfl (by exact Zo 1 rfl rfl))) ?_
  refine Zc 5 rfl rfl ⟨[1, 2], by decide, rfl⟩ (Zf (rd_shr (b := 8) rfl rfl (by omega))) ?_
  refine Zc 6 rfl rfl ⟨[1, 2], by decide, rfl⟩ (Zf (YH Tryz.runUnderlying3 Tryz.runUnderlying5 rfl (X3 _))) ?_
  refine Zc 7 rfl rfl ⟨[1, 2], by decide, rfl⟩ (Zf (Zd rfl (Y6 _))) ?_
  refine Zc 8 rfl rfl ⟨[1, 2], by decide, rfl⟩ (Zf (Zh Tryz.underlying3 rfl rfl (by exact Zo 1 rfl rfl))) ?_
  refine Zc 9 rfl rfl ⟨[1, 2], by decide, rfl⟩ (Zf (YH Tryz.runUnderlying3 Tryz.runUnderlying5 rfl (X3 _))) ?_
  refine Zc 10 rfl rfl ⟨[1, 2], by decide, rfl⟩ (Zf (Zd rfl (JG _))) ?_
  refine Zc 11 rfl rfl ⟨[1, 2], by decide, rfl⟩ (Zf (Zh Tryz.underlying65 rfl rfl (by exact Zo 1 rfl rfl))) ?_
  refine Zc 12 rfl rfl ⟨[1, 2], by decide, rfl⟩ (Zf (ZF Tryz.underlying65 rfl)) ?_
  refine Zc 13 rfl rfl ⟨[1, 2], by decide, rfl⟩ (Zf (YH Tryz.runUnderlying3 Tryz.runUnderlying5 rfl (X3 _))) ?_
  refine Zc 14 rfl rfl ⟨[1, 2], by decide, rfl⟩ (Zf (Xj Tryz.underlying65 Ym rfl rfl (by omega) (by omega))) ?_
  refine ZG 15 rfl (.inr ⟨[1, 2], by decide, rfl⟩) (Yi 0 Ym rfl rfl rfl rfl (by simp) (Vt (List.replicate 24 255) 0 _) (by rfl) ?_)
  refine Zc 16 rfl rfl ⟨[1, 2], by decide, rfl⟩ (Zf (Xj Tryz.underlying65 Ym rfl rfl (by omega) (by omega))) ?_
  refine ZG 17 rfl (.inr ⟨[1, 2], by decide, rfl⟩) (Yi 0 Ym rfl rfl rfl rfl (by simp) (Vt _ 1 _) (by rfl) ?_)
  refine Zc 18 rfl rfl ⟨[1, 2], by decide, rfl⟩ (Zf (Xj Tryz.underlying65 Ym rfl rfl (by omega) (by omega))) ?_
  refine ZG 19 rfl (.inr ⟨[1, 2], by decide, rfl⟩) (Yi 0 Ym rfl rfl rfl rfl (by simp) (Vt _ 2 _) (by rfl) ?_)
  refine ZS (.inl (by kernel_rfl)) ?_
  refine Ze <| Zb <| Zb <| Za <| gm rfl rfl <| gA <| ZC <| Z0 (ι := Nat) [(1, _), (3, _)] [_, _] (fun j => j ≤ 4) (fun j Fr0 => ((24, natV j) :: Fr0)) (fun j Fr0 => (.row 5 1 (some rr) 24 cr ((pk2 num (pk1 key 0) j).map u8V) :: Fr0)) (fun j => 4 - j) 0 (Nat.zero_le _) ⟨rfl, rfl, rfl, trivial⟩ ⟨[0, 1, 2], by decide, rfl⟩ ?_
  rintro j hj
  have hj24 : (pk2 num (pk1 key 0) j).length = 24 := by rw [Vv, Jl]
  refine Zb <| Za <| gr rfl (Z2 rfl rfl) (Zx (fun h25 => ?_) (fun h25 => ?_))
  · refine gA <| Zb <| Zj rfl <| Zu <| Ze <| Zb <| ZC <| Zb <| Za <| gm rfl rfl <| gas rfl rfl <| gA <| Za <| gm rfl rfl <| gm rfl rfl <| gr rfl (by exact ZQ (a := 3) rfl rfl (by omega)) ?_
    refine gr rfl (Zd rfl (Xx _)) <| gr rfl (Zh Tryz.underlying136 rfl rfl (by exact Zo 2 rfl rfl)) ?_
    refine gm rfl rfl <| gr rfl (by exact XE (a := 8) rfl rfl (by omega)) ?_
    refine gr rfl (by exact Za5 (a := 24) rfl rfl (by omega) (by omega)) ?_
    refine gr rfl (Zis (b := 24 - 8 * j) rfl rfl hnum (by omega)) ?_
    refine gr rfl (YH Tryz.runUnderlying136 Tryz.runUnderlying5 rfl (X3 _)) <| gr rfl (Xj Tryz.underlying65 Ym rfl rfl (by omega) (by omega)) ?_
    refine Zl (Yi 0 Ym rfl rfl rfl rfl (by simp; omega) (Vt _ (3 + j) _) (by rfl) ?_)
    refine ZU <| ZM <| Ze ?_
    rw [← JM]
    refine Za <| gr rfl (by exact ZQ (b := 1) rfl rfl (by omega)) ?_
    refine gm rfl rfl <| ZU <| Ze ?_
    exact ZZ (j + 1) ⟨by omega, by omega⟩ ⟨rfl, rfl, rfl, trivial⟩ ⟨[0, 1, 2], by decide, rfl⟩
  refine gA <| Zb <| Zk rfl <| Z1 <| Zr <| Zr <| ZE <| Ze <| Zb ?_
  obtain rfl : j = 4 := by omega
  have hp3 := hj24
  have hp3b := Zh0 num (Zlm key 0 hk) 4
  have hzz := JL ((pk2 num (pk1 key 0) 4).take 23)
  rw [List.length_take, hp3] at hzz
  refine ZP [1, 2] true 4 rfl <| Zc 0 rfl rfl ⟨[1, 2], by decide, rfl⟩ (Zf (Zm rfl)) ?_
  refine Zc 1 rfl rfl ⟨[1, 2], by decide, rfl⟩ (Zf (Jc Tryz.underlying65 Ym rfl rfl (by omega) (by omega))) ?_
  refine Zc 2 rfl rfl ⟨[1, 2], by decide, rfl⟩ (Zf (Zd rfl (JG _))) ?_
  refine Zc 3 rfl rfl ⟨[1, 2], by decide, rfl⟩ (Zf (Zh Tryz.underlying65 rfl rfl (by exact Zo 1 rfl rfl))) ?_
  rw [show J8 (some ⟨rr, 0, none⟩) 24 (Int.toNat 7) 1 = some ⟨rr, 7, none⟩ from JI (by decide)]
  refine ZG 4 rfl (.inr ⟨[1, 2], by decide, rfl⟩) (Zlr Tryz.underlying65 Ym rfl rfl rfl ?_)
  refine ZS (.inr ⟨[1, 2], by decide, rfl⟩) ?_
  refine Ze <| Zb <| Za <| gm rfl rfl <| gm rfl rfl <| gr rfl (W4 Tryz.underlying65 Ym rfl rfl (by omega) (by omega)) ?_
  refine Zl (ZD rfl (vf := []) (vc := []) rfl rfl Tryz.call124 (fun w1 ho => Zhz (pk2 num (pk1 key 0) 4) hp3b hp3 (some ⟨rr, 0, none⟩) 24 w1 (ho.rowSl 0 rfl)) ?_)
  rintro _ _ ⟨rfl, rfl⟩
  refine gr rfl (YH Tryz.runUnderlying3 Tryz.runUnderlying5 rfl (Vk (by omega))) ?_
  refine gr rfl (Xj Tryz.underlying65 Ym rfl rfl (by omega) (by omega)) ?_
  refine Zl (Yi 0 Ym rfl rfl rfl rfl (by rw [List.length_map, hp3]; decide) (Vt _ 23 _) (by rfl) ?_)
  refine gA <| Zb <| Za <| gm rfl rfl <| gas rfl rfl <| gA <| Zp <| Zz (.inl rfl) Tryz.results190 rfl [0] (by decide) ?_
  refine ⟨rr, cr, rfl, ?_⟩
  unfold packP
  rw [pk3_nil]
  rfl
theorem Wd (x : He) (hx : EnOk x.en) (num : Nat) (hnum : num < 4294967296) (w0 : World) (hsl : OldSl w0 [] (rowA x.r) x.en.val.length 1 (x.en.val.map u8V)) (hnil : x.r = none → x.c = 0) : Sp Tryz.prog 190 [.agg #[natV x.en.key, .int .u32 (num : Int), .slice (rowA x.r) x.en.val.length x.c]] w0 [] (fun v L => ∃ rr cr : Nat, v = .slice (some ⟨rr, 0, none⟩) 24 24 ∧ L = [.row 5 1 (some rr) 24 cr ((packP x.en.key num x.en.val).map u8V)]) := by
  obtain ⟨⟨key, n0, vs, bk, sl⟩, r, c⟩ := x
  have hk := hx.key
  simp only at hk hsl hnil ⊢
  cases r with
  | some g => exact pack_ok key num (by omega) hnum vs hx.val hx.len ⟨g, 0, none⟩ c w0 hsl
  | none =>
    have hl : vs.length = 0 := by
      rcases Nat.eq_zero_or_pos vs.length with h | h
      · exact h
      · have := hsl.isSome h; cases this
    obtain rfl := List.eq_nil_of_length_eq_zero hl
    obtain rfl := hnil rfl
    exact pack_nil key num (by omega) hnum w0
theorem WW {w0 w : World} {S : List Nat} {l : List HL} (ho : Own w0 S w l) {x : He} (h : x.row ∈ l) : x.r = none → x.c = 0 := fun e => by
  have hh := ho.holds _ h
  unfold He.row at hh
  rw [e] at hh
  exact hh.2.2
theorem Zmv (f : Fl) (hf : f.Ok) (bs bf : Nat) (rb : Option Nat) (cb : Nat) (rp : Option Nat) (cp : Nat) (id bm num : Nat) (free : Int) (m : List (ME He)) (nb : Nat) (T : List HL) (hms : MSt m nb T) (S : List Nat) (w0 : World) (hown : Own w0 S w0 (.blk bs [.bool true, .pointer (some ⟨bf, 0, none⟩), natV id, .map (some bm), .int .u32 ((num : Nat) : Int), .int .i64 free] 138 :: .obj bm (Xo HV m nb) :: FlH bf rb cb rp cp f)) (hml : m.length ≤ 1000000) : Sp Tryz.prog 185 [.pointer (some ⟨bs, 0, none⟩)] w0 S (fun v L => ∃ (r : Option Nat) (c : Nat), v = .slice (rowA r) (keysP (plain m)).length c ∧ L = (.blk bs [.bool true, .pointer (some ⟨bf, 0, none⟩), natV id, .map (some bm), .int .u32 ((num : Nat) : Int), .int .i64 free] 138 :: .obj bm (Xo HV m nb) :: FlH bf rb cb rp cp f) ++ [.row 3 1 r (keysP (plain m)).length c ((keysP (plain m)).map natV)]) := by
  refine ZA Tryz.func185 rfl Tryz.ntmps185 rfl hown ?_
  simp only [ZT]
  refine Zb <| Za <| gas rfl rfl <| gA <| Zb <| Za <| gas rfl rfl <| gA <| Zb <| Zb <| Za <| gm rfl rfl <| gnc rfl rfl <| gr rfl (Zd rfl (Yj _)) <| gr rfl (Zh Tryz.underlying135 rfl rfl (by exact Zo 0 rfl rfl)) ?_
  refine Zl (Ziv 1 HV rfl Tryz.underlying135 rfl rfl (fun r9 => ?_))
  refine gA <| ZC <| Y2 3 1 <| Z0 (ι := List (ME He) × Option Nat × Nat) [(9, _)] [_, _, _, _, _] (fun j => (j.1.map ME.born).Nodup ∧ ∀ y ∈ j.1, y ∈ m) (fun j Fr0 => ((3, .slice (rowA j.2.1) (Jw j.1).length j.2.2) :: Fr0)) (fun j Fr0 => (.obj r9 (Jt bm nb j.1) :: .row 3 1 j.2.1 (Jw j.1).length j.2.2 ((Jw j.1).map natV) :: Fr0)) (fun j => m.length - j.1.length) ([], none, 0) (⟨List.nodup_nil, fun _ h => by cases h⟩) ⟨rfl, rfl, trivial⟩ ⟨[1, 0, 2, 3, 4, 5, 6], by decide, rfl⟩ ?_
  rintro ⟨ds, rk, ck⟩ ⟨hnd, hsub⟩
  simp only at hnd hsub ⊢
  have hdl : ds.length ≤ m.length := Zdl (X6 hnd) hsub
  have hdk := Zgn ds
  refine Zb <| Za <| Zl (Zmg 3 0 HV rfl hms.ok hnd hsub rfl rfl rfl (fun hperm => ?_) (fun y hy hyd => ?_))
  · refine gr rfl (Zv rfl rfl) <| gA <| Zb <| Zk rfl <| Z1 <| Zr <| Zr <| ZE <| Ze <| Zb <| Za <| gm rfl rfl <| Zl (Yf [1] [0, 2, 3, 4, 5, 6] rfl (vf := []) (vc := []) rfl rfl Tryz.call92 (by decide) rfl (fun w how hc => Zh6 (Jw ds) rk ck _ w hc (by omega)) ?_)
    rintro _ _ rfl
    rw [keys_perm hperm, show (Jw ds).length = (keysP (plain m)).length by rw [keysP_len, List.length_map, Zgn, hperm.length_eq]]
    refine gA <| Zb <| Za <| gm rfl rfl <| gas rfl rfl <| gA <| Zp <| Zz (.inl rfl) Tryz.results185 rfl [2, 3, 4, 5, 6, 0] (by decide) ?_
    exact ⟨rk, ck, rfl, rfl⟩
  refine gr rfl (Zv rfl rfl) <| gA <| Zb <| Zj rfl <| Zu <| Ze <| ZC <| Zb <| Za <| gr rfl (Zix 3 0 HV hms.ok hy rfl rfl rfl) <| gr rfl (Zv rfl rfl) ?_
  rw [hms.key y hy]
  refine gas rfl rfl <| gA <| Za <| gm rfl rfl <| gm rfl rfl <| Zl (ZK (sz := 1) rfl rfl (fun _ => YB _) rfl rfl (fun b16 => ?_))
  refine Zl (YE 2 0 Tryz.underlying24 Xu rfl (by decide) rfl rfl rfl rfl rfl (by simp [Value.oneCell']) (by omega) (by omega) (fun _ => (by rfl)) (fun r17 c17 => ?_))
  refine gas rfl rfl <| ZU <| ZM <| Ze ?_
  obtain ⟨hn1, hn2, hn3⟩ := Zjz hms.ok hnd hsub hy hyd
  rw [snocN, snoc_len (Jw ds) y.v.en.key, ← Zlq]
  exact ZZ ((ds ++ [y], r17, c17)) ⟨⟨hn1, hn2⟩, by simp; omega⟩ ⟨rfl, rfl, trivial⟩ ⟨[1, 2, 3, 4, 5, 6, 7], by decide, rfl⟩
theorem Xk (cs : List Value) (bs bf bm id num : Nat) (free e : Int) (S : List Nat) (w0 : World) (hown : Own w0 S w0 [.blk bs [.bool true, .pointer (some ⟨bf, 0, none⟩), natV id, .map (some bm), .int .u32 ((num : Nat) : Int), .int .i64 free] 138]) : Sp Tryz.prog 188 [.pointer (some ⟨bs, 0, none⟩), .int .i64 e] w0 S (fun v L => v = .int .i64 e ∧ L = [.blk bs [.bool true, .pointer (some ⟨bf, 0, none⟩), natV (if e = 9 then 0 else id), .map (some bm), .int .u32 ((num : Nat) : Int), .int .i64 free] 138]) := by
  refine ZA Tryz.func188 rfl Tryz.ntmps188 rfl hown ?_
  simp only [ZT]
  refine Zb <| Za <| gas rfl rfl <| gA <| Zb <| Zb <| Za <| gm rfl rfl <| gr rfl (Yt rfl rfl) (Zx (fun h6 => ?_) (fun h6 => ?_))
  · refine gA <| Zj rfl <| Za <| gm rfl rfl <| gnc rfl rfl <| gr rfl (Zd rfl (Zjb _)) <| Zl (Z7 0 Xu rfl rfl rfl rfl rfl (by rfl) (by rfl) ?_)
    refine gA <| Zb <| Za <| gm rfl rfl <| gas rfl rfl <| gA <| Zp <| Zz (.inl rfl) Tryz.results188 rfl [0] (by decide) ?_
    rw [if_pos h6]
    exact ⟨rfl, rfl⟩
  refine gA <| Zk rfl <| Zu <| Ze <| Zb <| Za <| gm rfl rfl <| gas rfl rfl <| gA <| Zp <| Zz (.inl rfl) Tryz.results188 rfl [0] (by decide) ?_
  rw [if_neg h6]
  exact ⟨rfl, rfl⟩
namespace Iv
def Xs (P : List En) (k : Nat) : Nat := P.countP fun x => decide (x.bk = k)
def cntL (P : List En) (n : Nat) : List Nat := (List.range n).map (Xs P)
theorem cntL_len (P : List En) (n : Nat) : (cntL P n).length = n := by simp [cntL]
theorem cntL_nil (n : Nat) : cntL [] n = List.replicate n 0 := by
  apply List.ext_getElem
  · simp [cntL]
  · intro i h1 h2; simp [cntL, Xs]
theorem Zdm {P : List En} {n k : Nat} (h : k < n) : ((cntL P n).map natV)[k]? = some (natV (Xs P k)) := by simp [cntL, h]
theorem cnt_snoc (P : List En) (y : En) (n : Nat) (h : y.bk < n) : (cntL P n).set y.bk (Xs P y.bk + 1) = cntL (P ++ [y]) n := by
  apply List.ext_getElem
  · simp [cntL]
  · intro i h1 h2
    rw [List.getElem_set]
    simp only [cntL, List.getElem_map, List.getElem_range, Xs, List.countP_append, List.countP_singleton]
    by_cases e : y.bk = i
    · rw [if_pos e, e]; simp
    · rw [if_neg e]; simp [e]
theorem cnt_le (P : List En) (k : Nat) : Xs P k ≤ P.length := List.countP_le_length
theorem cnt_perm {P Q : List En} (h : P.Perm Q) (k : Nat) : Xs P k = Xs Q k := h.countP_eq _
theorem plain_perm {m ds : List (ME He)} (h : m.Perm ds) : (plain m).Perm (plain ds) := List.Perm.map (fun x : ME He => x.v.en) h
def VD (fb v : Nat) (s : (Fl × List En) × Nat × Int) (k : Nat) : (Fl × List En) × Nat × Int :=
  if s.2.2 ≠ 0 then s else match Yv k s.1.2 with
  | none => s
  | some x => if x.bk ≠ v then s else
    if (ZW s.1.1 (fb * 256 + s.2.1 * 24) (packP x.key x.num x.val)).2 ≠ 0 then (((ZW s.1.1 (fb * 256 + s.2.1 * 24) (packP x.key x.num x.val)).1, s.1.2), s.2.1, (ZW s.1.1 (fb * 256 + s.2.1 * 24) (packP x.key x.num x.val)).2)
    else (((ZW s.1.1 (fb * 256 + s.2.1 * 24) (packP x.key x.num x.val)).1, Jp ⟨x.key, x.num, x.val, fb, s.2.1⟩ s.1.2), s.2.1 + 1, 0)
def VW (fb v : Nat) (ks : List Nat) (f : Fl) (P : List En) (i : Nat) : (Fl × List En) × Nat × Int := (ks.take i).foldl (VD fb v) ((f, P), 0, 0)
theorem Zdn {fb v : Nat} {ks : List Nat} {f : Fl} {P : List En} {i k : Nat} (h : ks[i]? = some k) : VW fb v ks f P (i + 1) = VD fb v (VW fb v ks f P i) k := by
  unfold VW
  rw [take_at h, List.foldl_append]; rfl
theorem Zj0 {fb v : Nat} : ∀ (l : List Nat) {s : (Fl × List En) × Nat × Int}, s.2.2 ≠ 0 → l.foldl (VD fb v) s = s
  | [], _, _ => rfl
  | k :: l, s, h => by
    rw [List.foldl_cons, show VD fb v s k = s by unfold VD; rw [if_pos h]]
    exact Zj0 l h
theorem mv_stay {fb v : Nat} {ks : List Nat} {f : Fl} {P : List En} {i : Nat} (h : (VW fb v ks f P i).2.2 ≠ 0) : VW fb v ks f P ks.length = VW fb v ks f P i := by
  have e : ks.take ks.length = ks.take i ++ (ks.drop i) := by rw [List.take_length, List.take_append_drop]
  unfold VW at h ⊢
  rw [e, List.foldl_append]
  exact Zj0 _ h
def Ze0 (f : Fl) (P : List En) (fb : Nat) (e : Int) (f' : Fl) (P' : List En) (fb' : Nat) : Prop :=
  ∃ v, v < f.b.length / 256 ∧ v ≠ fb ∧ (∀ i, i < f.b.length / 256 → i ≠ fb → Xs P v ≤ Xs P i) ∧
   ((10 ≤ Xs P v ∧ e = 6 ∧ f' = f ∧ P' = P ∧ fb' = fb) ∨
    (Xs P v < 10 ∧ (((VW fb v (keysP P) f P (keysP P).length).2.2 ≠ 0 ∧ e = (VW fb v (keysP P) f P (keysP P).length).2.2 ∧ f' = (VW fb v (keysP P) f P (keysP P).length).1.1 ∧ P' = (VW fb v (keysP P) f P (keysP P).length).1.2 ∧ fb' = fb) ∨
      ((VW fb v (keysP P) f P (keysP P).length).2.2 = 0 ∧ f' = (Yh (VW fb v (keysP P) f P (keysP P).length).1.1 (v : Int)).1 ∧ e = (Yh (VW fb v (keysP P) f P (keysP P).length).1.1 (v : Int)).2 ∧ P' = (VW fb v (keysP P) f P (keysP P).length).1.2 ∧ fb' = if e ≠ 0 then fb else v))))
theorem VX {x : En} : ∀ {P : List En}, (Yv x.key P).isSome = true → (Jp x P).map En.key = P.map En.key
  | [], h => by cases h
  | y :: l, h => by
    unfold Yv at h
    unfold Jp
    by_cases e : x.key = y.key
    · rw [if_pos e]; simp [e]
    · rw [if_neg e] at h ⊢
      simp [VX h]
theorem Zbv {k : Nat} : ∀ {P : List En}, k ∈ P.map En.key → (Yv k P).isSome = true
  | [], h => by cases h
  | y :: l, h => by
    unfold Yv
    by_cases e : k = y.key
    · rw [if_pos e]; rfl
    · rw [if_neg e]
      rcases List.mem_cons.1 h with h | h
      · exact absurd h e
      · exact Zbv h
theorem Zh7 {x z : En} {v : Nat} (hxv : x.bk = v) (hz : z.bk ≠ v) : ∀ {P : List En}, Yv z.key P = some x → Xs (Jp z P) v + 1 = Xs P v
  | [], h => by cases h
  | y :: l, h => by
    unfold Yv at h
    unfold Jp
    by_cases e : z.key = y.key
    · rw [if_pos e] at h ⊢
      cases h
      simp [Xs, List.countP_cons, hxv, hz]
    · rw [if_neg e] at h ⊢
      have := Zh7 hxv hz h
      simp only [Xs, List.countP_cons] at this ⊢
      omega
theorem Zls (f : Fl) : (flFails f).er = f.er := (Zar f).2.2
theorem prog_er2 (g : Fl) (a : Int) (u : Nat) : (Yp g a u).1.er = g.er := by
  unfold Yp
  split
  · rfl
  · unfold XF
    split <;> exact Zls { g with pr := g.pr + 1 }
theorem wr_er (f : Fl) (o : Nat) (bs : List Nat) : ∀ k, (Xm f o bs k).1.er = f.er
  | 0 => rfl
  | k + 1 => by
    have ih := wr_er f o bs k
    rw [Jo]
    unfold Jn
    split
    · exact ih
    · split
      · exact ih
      · rw [prog_er2]; exact ih
theorem has_key {m : List (ME He)} {nb : Nat} {T : List HL} (h : MSt m nb T) {k : Nat} (hk : k ∈ (plain m).map En.key) : ∃ x, XL (k : Int) m = some x := by
  have h1 := Zbv hk
  rw [Zh1 k h.key, Option.isSome_map] at h1
  exact Option.isSome_iff_exists.1 h1
theorem keysP_mem {P : List En} {k : Nat} (h : k ∈ keysP P) : k ∈ P.map En.key := (JP _).mem_iff.1 h
theorem Wo {xs : List Nat} {i k : Nat} (h : xs[i]? = some k) : (xs.map natV)[i]? = some (natV k) := by rw [List.getElem?_map, h]; rfl
end Iv
theorem Zj1 (f : Fl) (hf : f.Ok) (bs bf : Nat) (rb : Option Nat) (cb : Nat) (rp : Option Nat) (cp : Nat) (id bm num : Nat) (fb : Nat) (m : List (ME He)) (nb : Nat) (T : List HL) (hms : MSt m nb T) (S : List Nat) (w0 : World) (hown : Own w0 S w0 (.blk bs [.bool true, .pointer (some ⟨bf, 0, none⟩), natV id, .map (some bm), .int .u32 ((num : Nat) : Int), .int .i64 ((fb : Nat) : Int)] 138 :: .obj bm (Xo HV m nb) :: (FlH bf rb cb rp cp f ++ T))) (hml : m.length ≤ 1000000) (hfb : fb < f.b.length / 256) (hbn : ∀ x ∈ m, x.v.en.bk < f.b.length / 256) (hpr : f.pr + 24 * m.length + 24 < 4611686018427387904) (her : f.er + 1 < 4611686018427387904) : Sp Tryz.prog 187 [.pointer (some ⟨bs, 0, none⟩)] w0 S (fun v L => ∃ (e : Int) (f2 : Fl) (m2 : List (ME He)) (nb2 fb2 : Nat), v = .int .i64 e ∧ Ze0 f (plain m) fb e f2 (plain m2) fb2 ∧ MSt m2 nb2 T ∧ f2.Ok ∧ f2.b.length = f.b.length ∧ f2.pr ≤ f.pr + 24 * m.length ∧ L = (.blk bs [.bool true, .pointer (some ⟨bf, 0, none⟩), natV id, .map (some bm), .int .u32 ((num : Nat) : Int), .int .i64 ((fb2 : Nat) : Int)] 138 :: .obj bm (Xo HV m2 nb2) :: (FlH bf rb cb rp cp f2 ++ T))) := by
  have hbl := hf.hi
  have hbl0 := hf.lo
  have hblm := hf.len
  refine ZA Tryz.func187 rfl Tryz.ntmps187 rfl hown ?_
  simp only [ZT]
  refine Zb <| Za <| gas rfl rfl <| gA <| Zb <| Za <| gm rfl rfl <| gnc rfl rfl <| gr rfl (Zd rfl (Xp _)) <| gr rfl (Zh Tryz.underlying32 rfl rfl (by exact Zo 0 rfl rfl)) ?_
  refine Zl (ZD rfl (vf := []) (vc := []) rfl rfl Tryz.call41 (fun w1 ho => VT f hf bf rb cb rp cp w1 (ho.blkCells 2 rfl)) ?_)
  rintro _ _ ⟨rfl, rfl⟩
  refine Zl (Za1 (f.b.length / 256) Tryz.underlying24 Xu rfl rfl rfl (by omega) (by omega) (by omega) (by omega) (fun b20 => ?_))
  refine gas rfl rfl <| gA <| Zb <| Zb ?_
  rw [Zik _ rfl, show List.replicate (f.b.length / 256) (Value.int .i64 0) = (cntL (plain []) (f.b.length / 256)).map natV by rw [show plain [] = [] from rfl, cntL_nil]; simp]
  refine Za <| gm rfl rfl <| gnc rfl rfl <| gr rfl (Zd rfl (Yj _)) <| gr rfl (Zh Tryz.underlying135 rfl rfl (by exact Zo 1 rfl rfl)) ?_
  refine Zl (Ziv 2 HV rfl Tryz.underlying135 rfl rfl (fun r25 => ?_))
  refine gA <| ZC <| Z0 (ι := List (ME He)) [(0, _), (3, _), (25, _)] (_ :: _ :: _ :: _ :: _ :: T) (fun ds => (ds.map ME.born).Nodup ∧ ∀ y ∈ ds, y ∈ m) (fun ds Fr0 => Fr0) (fun ds Fr0 => (.obj r25 (Jt bm nb ds) :: .row 3 1 (some b20) (f.b.length / 256) (f.b.length / 256) ((cntL (plain ds) (f.b.length / 256)).map natV) :: Fr0)) (fun ds => m.length - ds.length) [] (⟨List.nodup_nil, fun _ h => by cases h⟩) ⟨rfl, rfl, rfl, trivial⟩ (Yo 0 rfl) ?_
  rintro ds ⟨hnd, hsub⟩
  have hdl : ds.length ≤ m.length := Zdl (X6 hnd) hsub
  refine Zb <| Za <| Zl (Zmg 3 0 HV rfl hms.ok hnd hsub rfl rfl rfl (fun hperm => ?_) (fun y hy hyd => ?_))
  · refine gr rfl (Zv rfl rfl) <| gA <| Zb <| Zk rfl <| Z1 <| Zr <| Zr <| ZE <| Ze <| Zb ?_
    rw [show cntL (plain ds) (f.b.length / 256) = cntL (plain m) (f.b.length / 256) by unfold cntL; congr 1; funext k; exact (cnt_perm (plain_perm hperm) k).symm]
    refine Za <| gas rfl rfl <| gA <| Zb <| Zb <| Za <| gm rfl rfl <| gr rfl (ZF Tryz.underlying24 rfl) <| gm rfl rfl <| gA <| ZC <| Z0 (ι := Nat × Int) [(0, _), (3, _), (38, _), (39, _)] (_ :: _ :: _ :: _ :: _ :: _ :: _ :: T) (fun j => j.1 ≤ f.b.length / 256 ∧ ((j.2 = -1 ∧ ∀ i, i < j.1 → i = fb) ∨ ∃ v : Nat, j.2 = (v : Int) ∧ v < j.1 ∧ v ≠ fb ∧ ∀ i, i < j.1 → i ≠ fb → Xs (plain m) v ≤ Xs (plain m) i)) (fun j Fr0 => ((6, .int .i64 j.2) :: (40, natV j.1) :: Fr0)) (fun j Fr0 => Fr0) (fun j => f.b.length / 256 - j.1) (0, -1) (⟨Nat.zero_le _, .inl ⟨rfl, fun i h => absurd h (Nat.not_lt_zero _)⟩⟩) ⟨rfl, rfl, rfl, rfl, rfl, rfl, trivial⟩ (Yo 0 rfl) ?_
    rintro ⟨k, vi⟩ ⟨hk, hvi⟩
    simp only at hk hvi ⊢
    refine Zb <| Za <| gr rfl (Z2 rfl rfl) (Zx (fun h41 => ?_) (fun h41 => ?_))
    · refine gA <| Zb <| Zj rfl <| Zu <| Ze <| Zb <| ZC <| Zb <| Za <| gm rfl rfl <| gr rfl (Ye 1 rfl Tryz.underlying24 Xu rfl rfl (by omega) (by omega)) ?_
      refine gr rfl (Zh Tryz.underlying3 rfl rfl (XX 1 rfl (Zdm (P := plain m) (show k < f.b.length / 256 by omega)))) ?_
      refine gas rfl rfl <| gas rfl rfl <| gA <| Zb <| Za <| gm rfl rfl <| gm rfl rfl <| gnc rfl rfl <| gr rfl (Zd rfl (X9 _)) <| gr rfl (Zh Tryz.underlying3 rfl rfl (by exact Zo 2 rfl rfl)) ?_
      refine gr rfl (ZX rfl rfl) (Zx (fun h50 => ?_) (fun h50 => ?_))
      · refine gm rfl rfl <| Zi rfl rfl <| Zn rfl (Zm rfl) <| Zi rfl rfl (Zn rfl (Z2 rfl rfl) (Zx (fun h53 => ?_) (fun h53 => ?_)))
        · refine Zi rfl rfl <| Zn rfl (Zm rfl) <| Zs rfl rfl rfl <| Zs rfl rfl rfl <| Zs rfl rfl rfl <| Zs rfl rfl rfl <| Zs rfl rfl rfl <| Zs rfl rfl rfl <| Zi rfl rfl <| Zn rfl (ZB rfl rfl) <| gr rfl (ZB rfl rfl) <| gA <| Zj rfl <| Za <| gm rfl rfl <| gas rfl rfl <| ZU <| ZM <| Ze <| Za <| gr rfl (by exact ZQ (b := 1) rfl rfl (by omega)) ?_
          refine gm rfl rfl <| ZU <| Ze ?_
          exact ZZ ((k + 1, (k : Int))) ⟨⟨by simp only; omega, by simp only; rcases hvi with ⟨h1, h2⟩ | ⟨v, h1, h2, h3, h4⟩; exact .inr ⟨k, rfl, by omega, by omega, fun i hi hne => by rcases (show i < k ∨ i = k by omega) with h | h; exact absurd (h2 i h) hne; rw [h]; exact Nat.le_refl _⟩; omega⟩, by simp only; omega⟩ ⟨rfl, rfl, rfl, rfl, rfl, rfl, trivial⟩ (Yo 0 rfl)
        obtain ⟨v, rfl, hv2, hv3, hv4⟩ : ∃ v : Nat, vi = (v : Int) ∧ v < k ∧ v ≠ fb ∧ ∀ i, i < k → i ≠ fb → Xs (plain m) v ≤ Xs (plain m) i := by
          rcases hvi with ⟨h, _⟩ | h
          · omega
          · exact h
        refine Zi rfl rfl <| Zn rfl (Zm rfl) <| Zi rfl rfl <| Zn rfl (Zm rfl) <| Zi rfl rfl <| Zn rfl (Zm rfl) <| Zi rfl rfl <| Zn rfl (Zm rfl) <| Zi rfl rfl (Zn rfl (Ye 1 rfl Tryz.underlying24 Xu rfl rfl (by omega) (by omega)) ?_)
        refine Zi rfl rfl (Zn rfl (Zh Tryz.underlying3 rfl rfl (XX 1 rfl (Zdm (P := plain m) (show v < f.b.length / 256 by omega)))) ?_)
        refine Zi rfl rfl (Zn rfl (Z2 rfl rfl) (Zx (fun h60 => ?_) (fun h60 => ?_)))
        · refine Zi rfl rfl <| Zn rfl (Zq rfl rfl) <| gr rfl (ZB rfl rfl) <| gA <| Zj rfl <| Za <| gm rfl rfl <| gas rfl rfl <| ZU <| ZM <| Ze <| Za <| gr rfl (by exact ZQ (b := 1) rfl rfl (by omega)) ?_
          refine gm rfl rfl <| ZU <| Ze ?_
          exact ZZ ((k + 1, (k : Int))) ⟨⟨by simp only; omega, .inr ⟨k, rfl, by simp only; omega, by omega, fun i hi hne => by simp only at hi; rcases (show i < k ∨ i = k by omega) with h | h; have := hv4 i h hne; omega; rw [h]; exact Nat.le_refl _⟩⟩, by simp only; omega⟩ ⟨rfl, rfl, rfl, rfl, rfl, rfl, trivial⟩ (Yo 0 rfl)
        refine Zi rfl rfl <| Zn rfl (Zq rfl rfl) <| gr rfl (ZB rfl rfl) <| gA <| Zk rfl <| Zu <| ZM <| Ze <| Za <| gr rfl (by exact ZQ (b := 1) rfl rfl (by omega)) ?_
        refine gm rfl rfl <| ZU <| Ze ?_
        exact ZZ ((k + 1, (v : Int))) ⟨⟨by simp only; omega, .inr ⟨v, rfl, by simp only; omega, hv3, fun i hi hne => by simp only at hi; rcases (show i < k ∨ i = k by omega) with h | h; exact hv4 i h hne; rw [h]; omega⟩⟩, by simp only; omega⟩ ⟨rfl, rfl, rfl, rfl, rfl, rfl, trivial⟩ (Yo 0 rfl)
      refine gm rfl rfl <| Zs rfl rfl rfl <| Zs rfl rfl rfl <| Zs rfl rfl rfl <| Yk rfl rfl rfl <| Yk rfl rfl rfl <| Yk rfl rfl rfl <| Yk rfl rfl rfl <| Yk rfl rfl rfl <| Yk rfl rfl rfl <| Zs rfl rfl rfl <| gr rfl (Zq rfl rfl) <| gA <| Zk rfl <| Zu <| ZM <| Ze <| Za <| gr rfl (by exact ZQ (b := 1) rfl rfl (by omega)) ?_
      refine gm rfl rfl <| ZU <| Ze ?_
      exact ZZ ((k + 1, vi)) ⟨⟨by simp only; omega, by simp only; rcases hvi with ⟨h1, h2⟩ | ⟨v, h1, h2, h3, h4⟩; exact .inl ⟨h1, fun i hi => by rcases (show i < k ∨ i = k by omega) with h | h; exact h2 i h; omega⟩; exact .inr ⟨v, h1, by omega, h3, fun i hi hne => by rcases (show i < k ∨ i = k by omega) with h | h; exact h4 i h hne; omega⟩⟩, by simp only; omega⟩ ⟨rfl, rfl, rfl, rfl, rfl, rfl, trivial⟩ (Yo 0 rfl)
    refine gA <| Zb <| Zk rfl <| Z1 <| Zr <| Zr <| ZE <| Ze <| Zb <| Zb ?_
    obtain ⟨v, rfl, hv2, hv3, hv4⟩ : ∃ v : Nat, vi = (v : Int) ∧ v < k ∧ v ≠ fb ∧ ∀ i, i < k → i ≠ fb → Xs (plain m) v ≤ Xs (plain m) i := by
      rcases hvi with ⟨_, h⟩ | h
      · have h1 := h 0 (by omega)
        have h2 := h 1 (by omega)
        omega
      · exact h
    have hke : k = f.b.length / 256 := by omega
    clear hvi
    refine Za <| gm rfl rfl <| gm rfl rfl <| gr rfl (Ye 1 rfl Tryz.underlying24 Xu rfl rfl (by omega) (by omega)) ?_
    refine gr rfl (Zh Tryz.underlying3 rfl rfl (XX 1 rfl (Zdm (P := plain m) (show v < f.b.length / 256 by omega)))) ?_
    refine gr rfl (Wh rfl rfl) (Zx (fun h69 => ?_) (fun h69 => ?_))
    · refine gA <| Zj rfl <| Zb <| Za <| gas rfl rfl <| gA <| Zp <| Zg <| ZY (.inl rfl) Tryz.results187 rfl (Yo 2 rfl) ?_
      exact ⟨6, f, m, nb, fb, rfl, ⟨v, by omega, hv3, fun i hi hne => hv4 i (by omega) hne, .inl ⟨by omega, rfl, rfl, rfl, rfl⟩⟩, hms, hf, rfl, Nat.le_add_right _ _, rfl⟩
    refine gA <| Zk rfl <| Zu <| Ze <| Zb <| Za <| gm rfl rfl <| gnc rfl rfl <| gr rfl (Zd rfl (X9 _)) <| gr rfl (Zh Tryz.underlying3 rfl rfl (by exact Zo 2 rfl rfl)) ?_
    refine gr rfl (ZJ rfl (fun _ => bd_182_0 _)) ?_
    refine Zl (ZN Ya rfl rfl (fun b9 => ?_))
    refine Zl (Zy 0 Ya rfl rfl rfl rfl rfl rfl (by rfl) ?_)
    refine gA <| Zb <| Zb <| Za <| gm rfl rfl <| Zl (Yl [_, _, _, _, _, _, _, _] T [3, 4, 5, 6, 7] [0, 1, 2] 8 rfl rfl rfl (vf := []) (vc := []) rfl rfl Tryz.call185 (by decide) (by decide) rfl (fun w how hc => Zmv f hf bs bf rb cb rp cp id bm num fb m nb T hms _ w hc hml) ?_)
    rintro _ _ ⟨rk, ck, rfl, rfl⟩
    refine gr rfl (ZF Tryz.underlying24 rfl) <| gm rfl rfl <| gA <| ZC <| Z0 (ι := Nat × Nat × Fl × List (ME He) × Nat) [(0, _), (6, _), (9, _), (76, _), (77, _)] (_ :: _ :: _ :: _ :: T) (fun j => j.1 ≤ (keysP (plain m)).length ∧ VW fb v (keysP (plain m)) f (plain m) j.1 = ((j.2.2.1, plain j.2.2.2.1), j.2.1, 0) ∧ MSt j.2.2.2.1 j.2.2.2.2 T ∧ j.2.2.1.Ok ∧ j.2.2.1.b.length = f.b.length ∧ j.2.2.1.pr ≤ f.pr + 24 * j.1 ∧ j.2.2.1.er = f.er ∧ Xs (plain j.2.2.2.1) v + j.2.1 = Xs (plain m) v ∧ (plain j.2.2.2.1).map En.key = (plain m).map En.key) (fun j Fr0 => ((78, natV j.1) :: Fr0)) (fun j Fr0 => (.blk b9 [natV fb, natV j.2.1] 182 :: .obj bm (Xo HV j.2.2.2.1 j.2.2.2.2) :: .blk bf (j.2.2.1.cells rb cb rp cp) 115 :: .row 5 1 rb j.2.2.1.b.length cb (j.2.2.1.b.map u8V) :: .row 5 1 rp j.2.2.1.picks.length cp (j.2.2.1.picks.map u8V) :: Fr0)) (fun j => (keysP (plain m)).length - j.1) (0, 0, f, m, nb) (⟨Nat.zero_le _, rfl, hms, hf, rfl, Nat.le_refl _, rfl, rfl, rfl⟩) ⟨rfl, rfl, rfl, rfl, rfl, rfl, trivial⟩ (ZL (A := [_, _, _, _, _, _, _, _, _]) (B := [_, _, _, _, _, _, _, _, _]) (T := T) [6, 1, 2, 3, 4, 0, 5, 7, 8] 9 (by decide) (by decide) rfl rfl) ?_
    rintro ⟨i, sl, g, m2, nb2⟩ ⟨hi, hmv, hm2, hg, hgl, hgp, hger, hcn, hkeys⟩
    simp only at hi hmv hm2 hg hgl hgp hger hcn hkeys ⊢
    have hkl := keysP_len (plain m)
    have hpml : (plain m).length = m.length := by simp [plain]
    have hcv := cnt_le (plain m) v
    refine Zb <| Za <| gr rfl (Z2 rfl rfl) (Zx (fun h79 => ?_) (fun h79 => ?_))
    · obtain ⟨k0, hk⟩ := get_some (show i < (keysP (plain m)).length by omega)
      obtain ⟨x, hgx⟩ := has_key hm2 (show k0 ∈ (plain m2).map En.key by rw [hkeys]; exact keysP_mem (List.mem_of_getElem? hk))
      obtain ⟨hxe, hxr, hxk, hpg⟩ := hm2.get hgx
      subst hxk
      refine gA <| Zb <| Zj rfl <| Zu <| Ze <| Zb <| ZC <| Zb <| Za <| gr rfl (Ye 6 rfl Tryz.underlying24 Xu rfl rfl (by omega) (by omega)) ?_
      refine gr rfl (Zh Tryz.underlying3 rfl rfl (XX 6 rfl (Wo hk))) <| gas rfl rfl <| gA <| Zb <| Za <| gm rfl rfl <| gnc rfl rfl <| gr rfl (Zd rfl (Yj _)) <| gr rfl (Zh Tryz.underlying135 rfl rfl (by exact Zo 5 rfl rfl)) ?_
      refine gm rfl rfl <| gr rfl (Zaj 1 HV rfl Tryz.underlying135 Tryz.underlying3 Yz rfl rfl) <| Zl (ZN Yz rfl rfl (fun b12 => ?_))
      rw [hgx, Option.map_some, Option.getD_some]
      refine Zl (Zy 0 Yz rfl rfl rfl rfl rfl rfl (by rfl) ?_)
      refine gA <| Zb <| Zb <| Za <| gr rfl (Zd rfl (Zjd _)) <| gr rfl (Zd rfl (Zbl _)) <| gr rfl (Zh Tryz.underlying3 rfl rfl (by exact Zo 0 rfl rfl)) ?_
      refine gm rfl rfl <| gr rfl (ZX rfl rfl) (Zx (fun h92 => ?_) (fun h92 => ?_))
      · refine gA <| Zj rfl <| Z1 <| Zr <| ZE <| Ze <| Za <| gr rfl (by exact ZQ (b := 1) rfl rfl (by omega)) ?_
        refine gm rfl rfl <| ZU <| Ze ?_
        exact ZZ ((i + 1, sl, g, m2, nb2)) ⟨⟨by simp only; omega, by simp only; rw [Zdn hk, hmv]; unfold VD; rw [if_neg (fun h => h rfl), hpg]; simp only; rw [if_pos (by omega)], hm2, hg, hgl, by simp only; omega, hger, hcn, hkeys⟩, by simp only; omega⟩ ⟨rfl, rfl, rfl, rfl, rfl, rfl, trivial⟩ (Yo 1 rfl)
      have hxv : x.en.bk = v := by omega
      have hcp := Zh7 (z := ⟨x.en.key, x.en.num, x.en.val, fb, sl⟩) hxv (show fb ≠ v by omega) hpg
      have hplt := XN (num := x.en.num) (show x.en.key < 65536 by have := hxe.key; omega) hxe.val hxe.len
      have hp24 := Xe (key := x.en.key) (num := x.en.num) hxe.len
      have hen2 : EnOk ⟨x.en.key, x.en.num, x.en.val, fb, sl⟩ := ⟨hxe.key, hxe.num, hxe.len, hxe.val, (by simp only; omega), (by simp only; omega)⟩
      obtain ⟨w1, w2, w3, w4, w5⟩ := VU hg (o := fb * 256 + sl * 24) hplt (packP x.en.key x.en.num x.en.val).length (by omega)
      rw [show Xm g (fb * 256 + sl * 24) (packP x.en.key x.en.num x.en.val) (packP x.en.key x.en.num x.en.val).length = ZW g (fb * 256 + sl * 24) (packP x.en.key x.en.num x.en.val) from rfl] at w1 w2 w3 w4 w5
      rw [hp24] at w2
      refine gA <| Zk rfl <| Zu <| Ze <| Zb <| Zb <| ZP [0, 1, 2, 7, 8, 9] true 6 rfl <| Zc 0 rfl rfl ⟨[0, 1, 2, 7, 8, 9], by decide, rfl⟩ (Zf (Zm rfl)) ?_
      refine Zc 1 rfl rfl ⟨[0, 1, 2, 7, 8, 9], by decide, rfl⟩ (Zf (Zt Tryz.underlying182 rfl Ya rfl (by exact ZH 1 (off := 0) (k := 2) rfl rfl) rfl)) ?_
      refine Zc 2 rfl rfl ⟨[0, 1, 2, 7, 8, 9], by decide, rfl⟩ (Zf (Zd rfl (JH _))) ?_
      refine Zc 3 rfl rfl ⟨[0, 1, 2, 7, 8, 9], by decide, rfl⟩ (Zf (Zt Tryz.underlying184 rfl Z6 rfl (by exact ZH 0 (off := 0) (k := 3) rfl rfl) rfl)) ?_
      refine ZG 4 rfl (.inr ⟨[0, 1, 2, 7, 8, 9], by decide, rfl⟩) (ZD rfl (vf := []) (vc := []) rfl rfl Tryz.call190 (fun w1 ho => Wd x hxe x.en.num hxe.num w1 (ho.memSl (show x.row ∈ _ from by simp [hxr])) (WW ho (show x.row ∈ _ from by simp [hxr]))) ?_)
      rintro _ _ ⟨rr, cr, rfl, rfl⟩
      refine ZG 5 rfl (.inr ⟨[1, 2, 3, 8, 9, 10], by decide, rfl⟩) (Yl [_, _, _, _, _, _, _, _, _, _, _] T [7, 4, 5, 6] [0, 1, 2, 3, 8, 9, 10] 11 rfl rfl rfl (vf := []) (vc := []) rfl rfl Tryz.call189 (by decide) (by decide) rfl (fun w how hc => Wc g hg bs bf rb cb rp cp id bm num fb _ w hc (by omega) fb sl (by omega) (by omega) (packP x.en.key x.en.num x.en.val) hplt hp24 (some ⟨rr, 0, none⟩) 24 (Jm how 0 [7, 4, 5, 6] rfl (by decide))) ?_)
      rintro _ _ ⟨rfl, rfl⟩
      refine Zc 6 rfl rfl ⟨[5, 6, 7, 8, 9, 10], by decide, rfl⟩ (Zf (ZV rfl)) ?_
      refine ZS (.inr ⟨[5, 6, 7, 8, 9, 10], by decide, rfl⟩) ?_
      refine Ze <| Zb <| Za <| gm rfl rfl <| gr rfl (ZX rfl rfl) (Zx (fun h100 => ?_) (fun h100 => ?_))
      · refine gA <| Zj rfl <| Zb <| Za <| gm rfl rfl <| gas rfl rfl <| gA <| Zp <| Zg <| Zw <| Zg <| Zg <| Zw <| Zg <| ZY (.inl rfl) Tryz.results187 rfl (ZL (A := [_, _, _, _, _]) (B := [_, _, _, _, _, _, _, _, _, _, _]) (T := T) [0, 7, 1, 2, 3] 11 (by decide) (by decide) rfl rfl) ?_
        have hst : VW fb v (keysP (plain m)) f (plain m) (i + 1) = (((ZW g (fb * 256 + sl * 24) (packP x.en.key x.en.num x.en.val)).1, plain m2), sl, (ZW g (fb * 256 + sl * 24) (packP x.en.key x.en.num x.en.val)).2) := by rw [Zdn hk, hmv]; unfold VD; rw [if_neg (fun h => h rfl), hpg]; simp only; rw [if_neg (by omega), if_pos h100]
        have hfin := mv_stay (i := i + 1) (by rw [hst]; exact h100)
        rw [hst] at hfin
        exact ⟨_, (ZW g (fb * 256 + sl * 24) (packP x.en.key x.en.num x.en.val)).1, m2, nb2, fb, rfl, ⟨v, by omega, hv3, fun i hi hne => hv4 i (by omega) hne, .inr ⟨by omega, .inl (by rw [hfin]; exact ⟨h100, rfl, rfl, rfl, rfl⟩)⟩⟩, hm2, w1, by omega, by omega, rfl⟩
      refine gA <| Zk rfl <| Zu <| Ze <| Zb <| ZP [0, 1, 2, 3, 4, 5, 6, 8, 9, 10] false 9 rfl <| Zc 0 rfl rfl ⟨[0, 1, 2, 3, 4, 5, 6, 8, 9, 10], by decide, rfl⟩ (Zf (Zm rfl)) ?_
      refine Zc 1 rfl rfl ⟨[0, 1, 2, 3, 4, 5, 6, 8, 9, 10], by decide, rfl⟩ (Zf (ZI rfl)) ?_
      refine Zc 2 rfl rfl ⟨[0, 1, 2, 3, 4, 5, 6, 8, 9, 10], by decide, rfl⟩ (Zf (Zd rfl (Yj _))) ?_
      refine Zc 3 rfl rfl ⟨[0, 1, 2, 3, 4, 5, 6, 8, 9, 10], by decide, rfl⟩ (Zf (Zh Tryz.underlying135 rfl rfl (by exact Zo 0 rfl rfl))) ?_
      refine Zc 4 rfl rfl ⟨[0, 1, 2, 3, 4, 5, 6, 8, 9, 10], by decide, rfl⟩ (Zf (Zm rfl)) ?_
      refine Zc 5 rfl rfl ⟨[0, 1, 2, 3, 4, 5, 6, 8, 9, 10], by decide, rfl⟩ (Zf (Zd rfl (JH _))) ?_
      refine Zc 6 rfl rfl ⟨[0, 1, 2, 3, 4, 5, 6, 8, 9, 10], by decide, rfl⟩ (Zf (Zt Tryz.underlying184 rfl Z6 rfl (by exact ZH 5 (off := 0) (k := 3) rfl rfl) rfl)) ?_
      refine Zc 7 rfl rfl ⟨[0, 1, 2, 3, 4, 5, 6, 8, 9, 10], by decide, rfl⟩ (Zf (Zt Tryz.underlying182 rfl Ya rfl (by exact ZH 6 (off := 0) (k := 2) rfl rfl) rfl)) ?_
      refine Zc 8 rfl rfl ⟨[0, 1, 2, 3, 4, 5, 6, 8, 9, 10], by decide, rfl⟩ (Zf (ZJ rfl (fun _ => YO _ _ _ _ _ _ _))) ?_
      refine ZG 9 rfl (.inr ⟨[0, 1, 2, 3, 4, 5, 6, 8, 9, 10], by decide, rfl⟩) (YM 7 HV (v := ⟨⟨x.en.key, x.en.num, x.en.val, fb, sl⟩, x.r, x.c⟩) Tryz.underlying135 Tryz.underlying3 rfl rfl rfl rfl rfl ?_)
      refine ZS (.inl (by kernel_rfl)) ?_
      refine Ze <| Za <| gr rfl (Zd rfl (Zbm _)) <| gr rfl (Zh Tryz.underlying3 rfl rfl (by exact Zo 6 rfl rfl)) ?_
      refine gr rfl (by exact ZQ (b := 1) rfl rfl (by omega)) ?_
      refine gr rfl (Zd rfl (Zbm _)) <| Zl (Z7 6 Xu rfl rfl rfl rfl rfl (by rfl) (by rfl) ?_)
      refine ZU <| ZM <| Ze <| Za <| gr rfl (by exact ZQ (b := 1) rfl rfl (by omega)) ?_
      refine gm rfl rfl <| ZU <| Ze ?_
      have hst : VW fb v (keysP (plain m)) f (plain m) (i + 1) = (((ZW g (fb * 256 + sl * 24) (packP x.en.key x.en.num x.en.val)).1, Jp ⟨x.en.key, x.en.num, x.en.val, fb, sl⟩ (plain m2)), sl + 1, 0) := by rw [Zdn hk, hmv]; unfold VD; rw [if_neg (fun h => h rfl), hpg]; simp only; rw [if_neg (by omega), if_neg (by omega)]
      exact ZZ ((i + 1, sl + 1, (ZW g (fb * 256 + sl * 24) (packP x.en.key x.en.num x.en.val)).1, XT (x.en.key : Int) ⟨⟨x.en.key, x.en.num, x.en.val, fb, sl⟩, x.r, x.c⟩ nb2 m2, mnb (x.en.key : Int) m2 nb2)) ⟨⟨by simp only; omega, by simp only; rw [hst, XP ⟨⟨x.en.key, x.en.num, x.en.val, fb, sl⟩, x.r, x.c⟩ nb2 hm2.key], hm2.put ⟨⟨x.en.key, x.en.num, x.en.val, fb, sl⟩, x.r, x.c⟩ hen2 (fun y hy => hy) hxr, w1, by simp only; omega, by simp only; omega, by simp only; rw [show ((ZW g (fb * 256 + sl * 24) (packP x.en.key x.en.num x.en.val)).1).er = g.er from wr_er _ _ _ _]; exact hger, by simp only; rw [XP ⟨⟨x.en.key, x.en.num, x.en.val, fb, sl⟩, x.r, x.c⟩ nb2 hm2.key]; show Xs (Jp ⟨x.en.key, x.en.num, x.en.val, fb, sl⟩ (plain m2)) v + (sl + 1) = Xs (plain m) v; omega, by simp only; rw [XP ⟨⟨x.en.key, x.en.num, x.en.val, fb, sl⟩, x.r, x.c⟩ nb2 hm2.key, VX (by rw [hpg]; rfl)]; exact hkeys⟩, by simp only; omega⟩ ⟨rfl, rfl, rfl, rfl, rfl, rfl, trivial⟩ (ZL (A := [_, _, _, _, _, _, _, _, _]) (B := [_, _, _, _, _, _, _, _, _, _, _]) (T := T) [6, 7, 1, 2, 3, 0, 8, 9, 10] 11 (by decide) (by decide) rfl rfl)
    refine gA <| Zb <| Zk rfl <| Z1 <| Zr <| Zr <| ZE <| Ze <| Zb <| Zb <| Za <| gm rfl rfl <| gnc rfl rfl <| gr rfl (Zd rfl (Xp _)) <| gr rfl (Zh Tryz.underlying32 rfl rfl (by exact Zo 5 rfl rfl)) ?_
    refine gr rfl (Zm rfl) ?_
    have hie : i = (keysP (plain m)).length := by omega
    subst hie
    obtain ⟨e1, e2, e3, e4, e5⟩ := Zck hg (by omega) (v : Int)
    refine Zl (Yl [_, _, _, _, _, _, _, _, _] T [2, 3, 4] [0, 1, 5, 6, 7, 8] 9 rfl rfl rfl (vf := []) (vc := []) rfl rfl Tryz.call72 (by decide) (by decide) rfl (fun w how hc => Zju g hg bf rb cb rp cp _ w hc (v : Int)) ?_)
    rintro _ _ ⟨rfl, rfl⟩
    refine gas rfl rfl <| gA <| Zb <| Za <| gm rfl rfl <| gr rfl (ZX rfl rfl) (Zx (fun h123 => ?_) (fun h123 => ?_))
    · refine gA <| Zj rfl <| Zb <| Za <| gm rfl rfl <| gas rfl rfl <| gA <| Zp <| Zg <| ZY (.inl rfl) Tryz.results187 rfl (ZL (A := [_, _, _, _, _]) (B := [_, _, _, _, _, _, _, _, _]) (T := T) [5, 4, 0, 1, 2] 9 (by decide) (by decide) rfl rfl) ?_
      exact ⟨_, (Yh g (v : Int)).1, m2, nb2, fb, rfl, ⟨v, by omega, hv3, fun i hi hne => hv4 i (by omega) hne, .inr ⟨by omega, .inr (by rw [hmv]; exact ⟨rfl, rfl, rfl, rfl, by rw [if_pos h123]⟩)⟩⟩, hm2, e1, by omega, by omega, rfl⟩
    refine gA <| Zk rfl <| Zu <| Ze <| Zb <| Za <| gm rfl rfl <| gm rfl rfl <| gnc rfl rfl <| gr rfl (Zd rfl (X9 _)) <| Zl (Z7 5 Xu rfl rfl rfl rfl rfl (by rfl) (by rfl) ?_)
    refine gA <| Zb <| Za <| gas rfl rfl <| gA <| Zp <| ZY (.inl rfl) Tryz.results187 rfl (ZL (A := [_, _, _, _, _]) (B := [_, _, _, _, _, _, _, _, _]) (T := T) [5, 4, 0, 1, 2] 9 (by decide) (by decide) rfl rfl) ?_
    have h0 : (Yh g (v : Int)).2 = 0 := Decidable.byContradiction h123
    exact ⟨0, (Yh g (v : Int)).1, m2, nb2, v, rfl, ⟨v, by omega, hv3, fun i hi hne => hv4 i (by omega) hne, .inr ⟨by omega, .inr (by rw [hmv]; exact ⟨rfl, rfl, h0.symm, rfl, rfl⟩)⟩⟩, hm2, e1, by omega, by omega, rfl⟩
  refine gr rfl (Zv rfl rfl) <| gA <| Zb <| Zj rfl <| Zu <| Ze <| ZC <| Zb <| Za <| gr rfl (Zix 3 0 HV hms.ok hy rfl rfl rfl) <| gr rfl (Zv rfl rfl) <| Zl (ZN Yz rfl rfl (fun b5 => ?_))
  refine Zl (Zy 0 Yz rfl rfl rfl rfl rfl rfl (by rfl) ?_)
  refine ZU <| Ze ?_
  have hyb := hbn y hy
  have hcl := cnt_le (plain ds) y.v.en.bk
  have hcl2 : (plain ds).length = ds.length := by simp [plain]
  refine Za <| gm rfl rfl <| gr rfl (Zd rfl (Zjd _)) <| gr rfl (Zd rfl (Zbl _)) <| gr rfl (Zh Tryz.underlying3 rfl rfl (by exact Zo 0 rfl rfl)) ?_
  refine gr rfl (Ye 2 rfl Tryz.underlying24 Xu rfl rfl (by omega) (by omega)) ?_
  refine gr rfl (Zh Tryz.underlying3 rfl rfl (XX 2 rfl (Zdm (P := plain ds) hyb))) <| gr rfl (by exact ZQ (b := 1) rfl rfl (by omega)) ?_
  refine gr rfl (Ye 2 rfl Tryz.underlying24 Xu rfl rfl (by omega) (by omega)) ?_
  refine Zl (Yi 2 Xu rfl rfl rfl rfl (by simp [cntL_len]; omega) (setN (cntL (plain ds) (f.b.length / 256)) y.v.en.bk (Xs (plain ds) y.v.en.bk + 1)) (by rfl) ?_)
  refine ZU <| ZM <| Ze ?_
  obtain ⟨hn1, hn2, hn3⟩ := Zjz hms.ok hnd hsub hy hyd
  rw [cnt_snoc (plain ds) y.v.en _ hyb, show plain ds ++ [y.v.en] = plain (ds ++ [y]) by simp [plain]]
  exact ZZ ((ds ++ [y])) ⟨⟨hn1, hn2⟩, by simp; omega⟩ ⟨rfl, rfl, rfl, trivial⟩ (Yo 1 rfl)
namespace Iv
def WN (e : Int) (id : Nat) : Nat := if e = 9 then 0 else id
def Ze1 (f : Fl) (P : List En) (num fb id key : Nat) (vs : List Nat) (e : Int) (f' : Fl) (P' : List En) (num' id' : Nat) : Prop :=
  ∃ bk sl, RoomAt f.b (fb : Int) bk sl ∧ f' = (ZW f (bk * 256 + sl * 24) (packP key (num + 1) vs)).1 ∧ e = (ZW f (bk * 256 + sl * 24) (packP key (num + 1) vs)).2 ∧
    ((e ≠ 0 ∧ P' = P ∧ num' = num ∧ id' = WN e id) ∨ (e = 0 ∧ P' = Jp ⟨key, num + 1, vs, bk, sl⟩ P ∧ num' = num + 1 ∧ id' = id))
def PutGo (f : Fl) (P : List En) (num fb id key : Nat) (vs : List Nat) (e : Int) (f' : Fl) (P' : List En) (num' fb' id' : Nat) : Prop :=
  (Ze1 f P num fb id key vs e f' P' num' id' ∧ fb' = fb) ∨
  (NoRoom f.b (fb : Int) ∧ ∃ (e1 : Int) (f1 : Fl) (P1 : List En) (fb1 : Nat), Ze0 f P fb e1 f1 P1 fb1 ∧
    ((e1 ≠ 0 ∧ e = e1 ∧ f' = f1 ∧ P' = P1 ∧ num' = num ∧ fb' = fb1 ∧ id' = WN e1 id) ∨
     (e1 = 0 ∧ NoRoom f1.b (fb1 : Int) ∧ e = 6 ∧ f' = f1 ∧ P' = P1 ∧ num' = num ∧ fb' = fb1 ∧ id' = id) ∨
     (e1 = 0 ∧ Ze1 f1 P1 num fb1 id key vs e f' P' num' id' ∧ fb' = fb1)))
def Full (P : List En) (n key : Nat) : Prop := Yv key P = none ∧ 10 * (n - 2) ≤ P.length
theorem Zh8 {f : Fl} {bs gb : Nat} {free : Int} {w0 : World} (h : Sp Tryz.prog 186 [.pointer (some ⟨bs, 0, none⟩)] w0 [] (RoomR f.b free)) : Sp Tryz.prog 186 [.pointer (some ⟨bs, 0, none⟩)] w0 [] (fun v L => (∃ bk sl : Nat, v = .tuple #[.agg #[natV bk, natV sl], .bool true] ∧ RoomAt f.b free bk sl ∧ L = []) ∨ (∃ bk sl : Nat, v = .tuple #[.agg #[natV bk, natV sl], .bool false] ∧ NoRoom f.b free ∧ L = [])) := by
  refine h.mono ?_
  rintro v L ⟨rfl, ⟨bk, sl, h1, h2⟩ | ⟨bk, sl, h1, h2⟩⟩
  · exact .inl ⟨bk, sl, h1, h2, rfl⟩
  · exact .inr ⟨bk, sl, h1, h2, rfl⟩
end Iv
theorem Put_ok (f : Fl) (hf : f.Ok) (bs bf : Nat) (rb : Option Nat) (cb : Nat) (rp : Option Nat) (cp : Nat) (id bm num : Nat) (fb : Nat) (m : List (ME He)) (nb : Nat) (T : List HL) (hms : MSt m nb T) (S : List Nat) (w0 : World) (hown : Own w0 S w0 (.blk bs [.bool true, .pointer (some ⟨bf, 0, none⟩), natV id, .map (some bm), .int .u32 ((num : Nat) : Int), .int .i64 ((fb : Nat) : Int)] 138 :: .obj bm (Xo HV m nb) :: (FlH bf rb cb rp cp f ++ T))) (hml : m.length ≤ 1000000) (hfb : fb < f.b.length / 256) (hbn : ∀ x ∈ m, x.v.en.bk < f.b.length / 256) (hpr : f.pr + 24 * m.length + 48 < 4611686018427387904) (her : f.er + 1 < 4611686018427387904) (hnum : num + 1 < 4294967296) (key : Nat) (hkey : key ≤ 999) (vs : List Nat) (hvs : ∀ z ∈ vs, z < 256) (hv16 : vs.length ≤ 16) (a : Option Addr) (ca : Nat) (hsl : OldSl w0 S a vs.length 1 (vs.map u8V)) : Sp Tryz.prog 182 [.pointer (some ⟨bs, 0, none⟩), natV key, .slice a vs.length ca] w0 S (fun v L => (Wb f id ≠ 0 ∧ v = .int .i64 (Wb f id) ∧ L = (.blk bs [.bool true, .pointer (some ⟨bf, 0, none⟩), natV id, .map (some bm), .int .u32 ((num : Nat) : Int), .int .i64 ((fb : Nat) : Int)] 138 :: .obj bm (Xo HV m nb) :: (FlH bf rb cb rp cp f ++ T))) ∨ (Wb f id = 0 ∧ Full (plain m) (f.b.length / 256) key ∧ v = .int .i64 5 ∧ L = (.blk bs [.bool true, .pointer (some ⟨bf, 0, none⟩), natV id, .map (some bm), .int .u32 ((num : Nat) : Int), .int .i64 ((fb : Nat) : Int)] 138 :: .obj bm (Xo HV m nb) :: (FlH bf rb cb rp cp f ++ T))) ∨ (Wb f id = 0 ∧ ¬ Full (plain m) (f.b.length / 256) key ∧ ∃ (e : Int) (f2 : Fl) (m2 : List (ME He)) (nb2 fb2 num2 id2 : Nat) (T2 : List HL), v = .int .i64 e ∧ PutGo f (plain m) num fb id key vs e f2 (plain m2) num2 fb2 id2 ∧ MSt m2 nb2 T2 ∧ (∀ y ∈ T, y ∈ T2) ∧ f2.Ok ∧ f2.b.length = f.b.length ∧ f2.pr ≤ f.pr + 24 * m.length + 24 ∧ L = (.blk bs [.bool true, .pointer (some ⟨bf, 0, none⟩), natV id2, .map (some bm), .int .u32 ((num2 : Nat) : Int), .int .i64 ((fb2 : Nat) : Int)] 138 :: .obj bm (Xo HV m2 nb2) :: (FlH bf rb cb rp cp f2 ++ T2)))) := by
  have hbl := hf.hi
  have hbl0 := hf.lo
  have hblm := hf.len
  have hpml : (plain m).length = m.length := by simp [plain]
  obtain ⟨gb, rfl, hcb⟩ := JJ (hown.holds (.row 5 1 rb f.b.length cb (f.b.map u8V)) (by simp)) (by omega)
  refine ZA Tryz.func182 rfl Tryz.ntmps182 rfl hown ?_
  simp only [ZT]
  refine Zb <| Za <| gas rfl rfl <| gA <| Zb <| Zb <| Za <| gm rfl rfl <| gr rfl (XH eg_33 Tryz.underlying33 rfl rfl) <| gm rfl rfl <| Zi rfl rfl <| Zn rfl (Zm rfl) <| Zi rfl rfl <| Zn rfl (ZI rfl) <| Zi rfl rfl <| Zn rfl (Zd rfl (Zeh _)) <| Zi rfl rfl (Zn rfl (Zh Tryz.underlying4 rfl rfl (by exact Zo 0 rfl rfl)) ?_)
  refine Zi rfl rfl <| Zn rfl (rd_not rfl) <| gr rfl (Zq rfl rfl) <| gA <| Zk rfl <| Zu <| Ze <| Zb <| Zb <| Za <| gm rfl rfl <| gr rfl (Z2 rfl rfl) (Zx (fun h25 => ?_) (fun h25 => ?_))
  · exfalso; omega
  refine gm rfl rfl <| Zi rfl rfl <| Zn rfl (Zm rfl) <| Zi rfl rfl (Zn rfl (YW rfl rfl) (Zx (fun h28 => ?_) (fun h28 => ?_)))
  · exfalso; omega
  refine gr rfl (Zq rfl rfl) <| gm rfl rfl <| Zi rfl rfl <| Zn rfl (Zm rfl) <| Zi rfl rfl <| Zn rfl (ZF Tryz.underlying65 rfl) <| Zi rfl rfl (Zn rfl (YW rfl rfl) (Zx (fun h33 => ?_) (fun h33 => ?_)))
  · exfalso; omega
  refine gr rfl (Zq rfl rfl) <| gA <| Zk rfl <| Zu <| Ze <| Zb <| Zb <| Za <| gm rfl rfl <| Zl (ZD rfl (vf := []) (vc := []) rfl rfl Tryz.call184 (fun w1 ho => Zdj f hf bs bf (some gb) cb rp cp id bm num fb w1 (ho.blkCells 0 rfl) (ho.blkCells 2 rfl)) ?_)
  rintro _ _ ⟨rfl, rfl⟩
  refine gas rfl rfl <| gA <| Zb <| Za <| gm rfl rfl <| gr rfl (ZX rfl rfl) (Zx (fun h38 => ?_) (fun h38 => ?_))
  · refine gA <| Zj rfl <| Zb <| Za <| gm rfl rfl <| gas rfl rfl <| gA <| Zp <| Zg <| ZY (.inl rfl) Tryz.results182 rfl (Yo 0 rfl) ?_
    exact .inl ⟨h38, rfl, rfl⟩
  refine gA <| Zk rfl <| Zu <| Ze <| Zb <| Zb ?_
  rcases hg : XL ((key : Nat) : Int) m with _ | o
  · refine Za <| gm rfl rfl <| gnc rfl rfl <| gr rfl (Zd rfl (Yj _)) <| gr rfl (Zh Tryz.underlying135 rfl rfl (by exact Zo 0 rfl rfl)) ?_
    refine gm rfl rfl <| gr rfl (Xc 1 HV rfl Tryz.underlying135 Tryz.underlying3 Yz rfl rfl) <| gm rfl rfl <| gr rfl (Zv rfl rfl) <| gr rfl (Zv rfl rfl) <| Zl (ZN Yz rfl rfl (fun b8 => ?_))
    rw [hg, Option.map_none, Option.getD_none, Option.isSome_none]
    refine Zl (Zy 0 Yz rfl rfl rfl rfl rfl rfl (by rfl) ?_)
    refine gas rfl rfl <| gA <| Zb <| Za <| gm rfl rfl <| gr rfl (rd_not rfl) <| gm rfl rfl <| Zi rfl rfl <| Zn rfl (Zm rfl) <| Zi rfl rfl <| Zn rfl (ZI rfl) <| Zi rfl rfl <| Zn rfl (Zd rfl (Yj _)) <| Zi rfl rfl (Zn rfl (Zh Tryz.underlying135 rfl rfl (by exact Zo 1 rfl rfl)) ?_)
    refine Zi rfl rfl <| Zn rfl (rd_lenM 2 HV rfl Tryz.underlying135 rfl) <| Zi rfl rfl <| Zn rfl (Zm rfl) <| Zi rfl rfl (ZD rfl (vf := []) (vc := []) rfl rfl Tryz.call183 (fun w1 ho => most_q f hf bs bf (some gb) cb rp cp id bm num fb w1 (ho.blkCells 1 rfl) (ho.blkCells 3 rfl)) ?_)
    rintro _ _ ⟨rfl, rfl⟩
    refine Zi rfl rfl (Zn rfl (Wh rfl rfl) (Zx (fun h59 => ?_) (fun h59 => ?_)))
    · refine gr rfl (ZB rfl rfl) <| gA <| Zj rfl <| Zb <| Za <| gas rfl rfl <| gA <| Zp <| Zg <| ZY (.inl rfl) Tryz.results182 rfl (Yo 1 rfl) ?_
      exact .inr (.inl ⟨by omega, ⟨hms.none hg, by rw [hpml]; omega⟩, rfl, rfl⟩)
    refine gr rfl (ZB rfl rfl) <| gA <| Zk rfl <| Zu <| Ze <| Zb ?_
    have hnf : ¬ Full (plain m) (f.b.length / 256) key := fun ⟨h1, h2⟩ => by
      rw [hpml] at h2; omega
    refine Za <| gm rfl rfl <| Zl (ZD rfl (vf := []) (vc := []) rfl rfl Tryz.call186 (fun w1 ho => Zh8 (gb := gb) (Zh3 f hf bs bf gb cb rp cp id bm num fb w1 (ho.blkCells 1 rfl) (ho.blkCells 3 rfl) (ho.rowSl 4 rfl) (by omega))) ?_)
    rintro _ _ (⟨bk, sl, rfl, hroom, rfl⟩ | ⟨bk, sl, rfl, hno, rfl⟩)
    · refine gm rfl rfl <| gr rfl (Zv rfl rfl) <| gr rfl (Zv rfl rfl) <| Zl (ZN Ya rfl rfl (fun b10 => ?_))
      refine Zl (Zy 0 Ya rfl rfl rfl rfl rfl rfl (by rfl) ?_)
      refine gas rfl rfl <| gA <| Zb <| Zb <| Za <| gm rfl rfl <| gr rfl (rd_not rfl) <| gA <| Zk rfl <| Zu <| Ze <| Zb <| ZP [0, 1, 2, 3, 4, 5, 6] false 10 rfl <| Zc 0 rfl rfl ⟨[0, 1, 2, 3, 4, 5, 6], by decide, rfl⟩ (Zf (Zm rfl)) ?_
      refine Zc 1 rfl rfl ⟨[0, 1, 2, 3, 4, 5, 6], by decide, rfl⟩ (Zf (Zm rfl)) ?_
      refine Zc 2 rfl rfl ⟨[0, 1, 2, 3, 4, 5, 6], by decide, rfl⟩ (Zf (ZI rfl)) ?_
      refine Zc 3 rfl rfl ⟨[0, 1, 2, 3, 4, 5, 6], by decide, rfl⟩ (Zf (Zd rfl (Yr _))) ?_
      refine Zc 4 rfl rfl ⟨[0, 1, 2, 3, 4, 5, 6], by decide, rfl⟩ (Zf (Zh Tryz.underlying136 rfl rfl (by exact Zo 2 rfl rfl))) ?_
      refine Zc 5 rfl rfl ⟨[0, 1, 2, 3, 4, 5, 6], by decide, rfl⟩ (Zf (Xz (b := 1) rfl rfl (by omega))) ?_
      refine Zc 6 rfl rfl ⟨[0, 1, 2, 3, 4, 5, 6], by decide, rfl⟩ (Zf (Zm rfl)) ?_
      refine Zdx 7 9 (Gv.bm 11 255) (Gv.bm 11 639) rfl rfl rfl rfl (by kernel_rfl) (by kernel_rfl) (by kernel_rfl) (.inr ⟨[0, 1, 2, 3, 4, 5, 6], by decide, rfl⟩) ?_ ?_
      · refine (ZD rfl (vf := []) (vc := []) rfl rfl Tryz.call39 (fun w2 ho => Xy vs a ca w2 (hsl.at ho) (by omega)) ?_)
        rintro _ _ ⟨rv, cv, rfl, rfl⟩
        refine Zc 8 rfl rfl ⟨[1, 2, 3, 4, 5, 6, 7], by decide, rfl⟩ (Zf (ZJ rfl (fun _ => Xd _ _ _ _ _))) ?_
        refine ZG 9 rfl (.inr ⟨[1, 2, 3, 4, 5, 6, 7], by decide, rfl⟩) (ZN Z6 rfl rfl (fun b13 => ?_))
        refine ZG 10 rfl (.inr ⟨[2, 3, 4, 5, 6, 7, 8], by decide, rfl⟩) (Zy 0 Z6 rfl rfl rfl rfl rfl rfl (by rfl) ?_)
        refine ZS (.inl (by kernel_rfl)) ?_
        refine Ze <| Zb <| Zb ?_
        have hbkn := hroom.hbk
        have hslt := hroom.hsl
        have hplt := XN (num := num + 1) (show key < 65536 by omega) hvs hv16
        have hp24 := Xe (key := key) (num := num + 1) hv16
        obtain ⟨w1, w2, w3, w4, w5⟩ := VU hf (o := bk * 256 + sl * 24) hplt (packP key (num + 1) vs).length (by omega)
        rw [show Xm f (bk * 256 + sl * 24) (packP key (num + 1) vs) (packP key (num + 1) vs).length = ZW f (bk * 256 + sl * 24) (packP key (num + 1) vs) from rfl] at w1 w2 w3 w4 w5
        rw [hp24] at w2
        refine ZP [0, 1, 2, 3, 5] true 5 rfl <| Zc 0 rfl rfl ⟨[0, 1, 2, 3, 5], by decide, rfl⟩ (Zf (Zm rfl)) ?_
        refine Zc 1 rfl rfl ⟨[0, 1, 2, 3, 5], by decide, rfl⟩ (Zf (Zt Tryz.underlying182 rfl Ya rfl (by exact ZH 2 (off := 0) (k := 2) rfl rfl) rfl)) ?_
        refine Zc 2 rfl rfl ⟨[0, 1, 2, 3, 5], by decide, rfl⟩ (Zf (Zt Tryz.underlying184 rfl Z6 rfl (by exact ZH 0 (off := 0) (k := 3) rfl rfl) rfl)) ?_
        refine ZG 3 rfl (.inr ⟨[0, 1, 2, 3, 5], by decide, rfl⟩) (ZD rfl (vf := []) (vc := []) rfl rfl Tryz.call190 (fun w2 ho => Wd ⟨⟨key, num + 1, vs, bk, sl⟩, rv, cv⟩ ⟨hkey, hnum, hv16, hvs, (by simp only; omega), (by simp only; omega)⟩ (num + 1) hnum w2 (ho.rowSl 1 rfl) (WW (x := ⟨⟨key, num + 1, vs, bk, sl⟩, rv, cv⟩) ho (List.mem_of_getElem? (i := 1) rfl))) ?_)
        rintro _ _ ⟨rr, cr, rfl, rfl⟩
        refine ZG 4 rfl (.inr ⟨[1, 2, 3, 4, 6], by decide, rfl⟩) (Yl [_, _, _, _, _, _, _, _, _, _] T [5, 7, 8, 9] [0, 1, 2, 3, 4, 6] 10 rfl rfl rfl (vf := []) (vc := []) rfl rfl Tryz.call189 (by decide) (by decide) rfl (fun w how hc => Wc f hf bs bf (some gb) cb rp cp id bm num fb _ w hc (by omega) bk sl (by have := hroom.hbk; omega) hroom.hsl (packP key (num + 1) vs) hplt hp24 (some ⟨rr, 0, none⟩) 24 (Jm how 0 [5, 7, 8, 9] rfl (by decide))) ?_)
        rintro _ _ ⟨rfl, rfl⟩
        refine Zc 5 rfl rfl ⟨[5, 6, 7, 8, 9], by decide, rfl⟩ (Zf (ZV rfl)) ?_
        refine ZS (.inr ⟨[5, 6, 7, 8, 9], by decide, rfl⟩) ?_
        refine Ze <| Zb <| Za <| gm rfl rfl <| gr rfl (ZX rfl rfl) (Zx (fun h97 => ?_) (fun h97 => ?_))
        · refine gA <| Zj rfl <| Zb <| Za <| gm rfl rfl <| gm rfl rfl <| Zl (Yl [_, _, _, _, _, _, _, _, _, _] T [0] [1, 2, 3, 4, 5, 6, 7, 8, 9] 10 rfl rfl rfl (vf := []) (vc := []) rfl rfl Tryz.call188 (by decide) (by decide) rfl (fun w how hc => Xk [] bs bf bm id num fb (ZW f (bk * 256 + sl * 24) (packP key (num + 1) vs)).2 _ w hc) ?_)
          rintro _ _ ⟨rfl, rfl⟩
          refine gas rfl rfl <| gA <| Zp <| Zg <| ZY (.inl rfl) Tryz.results182 rfl (ZL (A := [_, _, _, _, _]) (B := [_, _, _, _, _, _, _, _, _, _]) (T := T) [0, 9, 1, 2, 3] 10 (by decide) (by decide) rfl rfl) ?_
          exact .inr (.inr ⟨by omega, hnf, (ZW f (bk * 256 + sl * 24) (packP key (num + 1) vs)).2, (ZW f (bk * 256 + sl * 24) (packP key (num + 1) vs)).1, m, nb, fb, num, WN (ZW f (bk * 256 + sl * 24) (packP key (num + 1) vs)).2 id, T, rfl, .inl ⟨⟨bk, sl, hroom, rfl, rfl, .inl ⟨h97, rfl, rfl, rfl⟩⟩, rfl⟩, hms, (fun _ h => h), w1, by omega, by omega, rfl⟩)
        refine gA <| Zk rfl <| Zu <| Ze <| Zb <| Za <| gm rfl rfl <| gnc rfl rfl <| gr rfl (Zd rfl (Yr _)) <| gr rfl (Zh Tryz.underlying136 rfl rfl (by exact Zo 0 rfl rfl)) ?_
        refine gr rfl (Xz (b := 1) rfl rfl (by omega)) ?_
        refine gnc rfl rfl <| gr rfl (Zd rfl (Yr _)) <| Zl (Z7 0 W7 rfl rfl rfl rfl rfl (by rfl) (by rfl) ?_)
        refine gA <| Zb <| ZP [0, 1, 2, 3, 4, 5, 6, 7, 8] false 8 rfl <| Zc 0 rfl rfl ⟨[0, 1, 2, 3, 4, 5, 6, 7, 8], by decide, rfl⟩ (Zf (Zm rfl)) ?_
        refine Zc 1 rfl rfl ⟨[0, 1, 2, 3, 4, 5, 6, 7, 8], by decide, rfl⟩ (Zf (ZI rfl)) ?_
        refine Zc 2 rfl rfl ⟨[0, 1, 2, 3, 4, 5, 6, 7, 8], by decide, rfl⟩ (Zf (Zd rfl (Yj _))) ?_
        refine Zc 3 rfl rfl ⟨[0, 1, 2, 3, 4, 5, 6, 7, 8], by decide, rfl⟩ (Zf (Zh Tryz.underlying135 rfl rfl (by exact Zo 0 rfl rfl))) ?_
        refine Zc 4 rfl rfl ⟨[0, 1, 2, 3, 4, 5, 6, 7, 8], by decide, rfl⟩ (Zf (Zm rfl)) ?_
        refine Zc 5 rfl rfl ⟨[0, 1, 2, 3, 4, 5, 6, 7, 8], by decide, rfl⟩ (Zf (Zt Tryz.underlying184 rfl Z6 rfl (by exact ZH 5 (off := 0) (k := 3) rfl rfl) rfl)) ?_
        refine Zc 6 rfl rfl ⟨[0, 1, 2, 3, 4, 5, 6, 7, 8], by decide, rfl⟩ (Zf (Zt Tryz.underlying182 rfl Ya rfl (by exact ZH 7 (off := 0) (k := 2) rfl rfl) rfl)) ?_
        refine Zc 7 rfl rfl ⟨[0, 1, 2, 3, 4, 5, 6, 7, 8], by decide, rfl⟩ (Zf (ZJ rfl (fun _ => YO _ _ _ _ _ _ _))) ?_
        refine ZG 8 rfl (.inr ⟨[0, 1, 2, 3, 4, 5, 6, 7, 8], by decide, rfl⟩) (YM 9 HV (v := ⟨⟨key, num + 1, vs, bk, sl⟩, rv, cv⟩) Tryz.underlying135 Tryz.underlying3 rfl rfl rfl rfl rfl ?_)
        refine ZS (.inl (by kernel_rfl)) ?_
        refine Ze <| Zb <| Za <| gas rfl rfl <| gA <| Zp ?_
        have hw0 : (ZW f (bk * 256 + sl * 24) (packP key (num + 1) vs)).2 = 0 := Decidable.byContradiction h97
        have hen2 : EnOk ⟨key, num + 1, vs, bk, sl⟩ := ⟨hkey, hnum, hv16, hvs, (by have := hroom.hbk; simp only; omega), hroom.hsl⟩
        refine ZY (.inl rfl) Tryz.results182 rfl (ZL (A := [_, _, _, _, _, _]) (B := [_, _, _, _, _, _, _, _, _, _]) (T := T) [0, 9, 1, 2, 3, 6] 10 (by decide) (by decide) rfl rfl) ?_
        exact .inr (.inr ⟨by omega, hnf, 0, (ZW f (bk * 256 + sl * 24) (packP key (num + 1) vs)).1, XT ((key : Nat) : Int) ⟨⟨key, num + 1, vs, bk, sl⟩, rv, cv⟩ nb m, mnb ((key : Nat) : Int) m nb, fb, num + 1, id, He.row ⟨⟨key, num + 1, vs, bk, sl⟩, rv, cv⟩ :: T, rfl, .inl ⟨⟨bk, sl, hroom, rfl, hw0.symm, .inr ⟨rfl, XP ⟨⟨key, num + 1, vs, bk, sl⟩, rv, cv⟩ nb hms.key, rfl, rfl⟩⟩, rfl⟩, hms.put ⟨⟨key, num + 1, vs, bk, sl⟩, rv, cv⟩ hen2 (fun y hy => List.mem_cons_of_mem _ hy) List.mem_cons_self, (fun y hy => List.mem_cons_of_mem _ hy), w1, by omega, by omega, rfl⟩)
      refine (ZN Z6 rfl rfl (fun b13 => ?_))
      refine ZG 7 rfl (.inr ⟨[1, 2, 3, 4, 5, 6, 7], by decide, rfl⟩) (ZD rfl (vf := []) (vc := []) rfl rfl Tryz.call39 (fun w2 ho => Xy vs a ca w2 (hsl.at ho) (by omega)) ?_)
      rintro _ _ ⟨rv, cv, rfl, rfl⟩
      refine Zc 8 rfl rfl ⟨[2, 3, 4, 5, 6, 7, 8], by decide, rfl⟩ (Zf (ZJ rfl (fun _ => Xd _ _ _ _ _))) ?_
      refine ZG 10 rfl (.inr ⟨[2, 3, 4, 5, 6, 7, 8], by decide, rfl⟩) (Zy 1 Z6 rfl rfl rfl rfl rfl rfl (by rfl) ?_)
      refine ZS (.inl (by kernel_rfl)) ?_
      refine Ze <| Zb <| Zb ?_
      have hbkn := hroom.hbk
      have hslt := hroom.hsl
      have hplt := XN (num := num + 1) (show key < 65536 by omega) hvs hv16
      have hp24 := Xe (key := key) (num := num + 1) hv16
      obtain ⟨w1, w2, w3, w4, w5⟩ := VU hf (o := bk * 256 + sl * 24) hplt (packP key (num + 1) vs).length (by omega)
      rw [show Xm f (bk * 256 + sl * 24) (packP key (num + 1) vs) (packP key (num + 1) vs).length = ZW f (bk * 256 + sl * 24) (packP key (num + 1) vs) from rfl] at w1 w2 w3 w4 w5
      rw [hp24] at w2
      refine ZP [0, 1, 2, 3, 5] true 5 rfl <| Zc 0 rfl rfl ⟨[0, 1, 2, 3, 5], by decide, rfl⟩ (Zf (Zm rfl)) ?_
      refine Zc 1 rfl rfl ⟨[0, 1, 2, 3, 5], by decide, rfl⟩ (Zf (Zt Tryz.underlying182 rfl Ya rfl (by exact ZH 2 (off := 0) (k := 2) rfl rfl) rfl)) ?_
      refine Zc 2 rfl rfl ⟨[0, 1, 2, 3, 5], by decide, rfl⟩ (Zf (Zt Tryz.underlying184 rfl Z6 rfl (by exact ZH 1 (off := 0) (k := 3) rfl rfl) rfl)) ?_
      refine ZG 3 rfl (.inr ⟨[0, 1, 2, 3, 5], by decide, rfl⟩) (ZD rfl (vf := []) (vc := []) rfl rfl Tryz.call190 (fun w2 ho => Wd ⟨⟨key, num + 1, vs, bk, sl⟩, rv, cv⟩ ⟨hkey, hnum, hv16, hvs, (by simp only; omega), (by simp only; omega)⟩ (num + 1) hnum w2 (ho.rowSl 0 rfl) (WW (x := ⟨⟨key, num + 1, vs, bk, sl⟩, rv, cv⟩) ho (List.mem_of_getElem? (i := 0) rfl))) ?_)
      rintro _ _ ⟨rr, cr, rfl, rfl⟩
      refine ZG 4 rfl (.inr ⟨[1, 2, 3, 4, 6], by decide, rfl⟩) (Yl [_, _, _, _, _, _, _, _, _, _] T [5, 7, 8, 9] [0, 1, 2, 3, 4, 6] 10 rfl rfl rfl (vf := []) (vc := []) rfl rfl Tryz.call189 (by decide) (by decide) rfl (fun w how hc => Wc f hf bs bf (some gb) cb rp cp id bm num fb _ w hc (by omega) bk sl (by have := hroom.hbk; omega) hroom.hsl (packP key (num + 1) vs) hplt hp24 (some ⟨rr, 0, none⟩) 24 (Jm how 0 [5, 7, 8, 9] rfl (by decide))) ?_)
      rintro _ _ ⟨rfl, rfl⟩
      refine Zc 5 rfl rfl ⟨[5, 6, 7, 8, 9], by decide, rfl⟩ (Zf (ZV rfl)) ?_
      refine ZS (.inr ⟨[5, 6, 7, 8, 9], by decide, rfl⟩) ?_
      refine Ze <| Zb <| Za <| gm rfl rfl <| gr rfl (ZX rfl rfl) (Zx (fun h97 => ?_) (fun h97 => ?_))
      · refine gA <| Zj rfl <| Zb <| Za <| gm rfl rfl <| gm rfl rfl <| Zl (Yl [_, _, _, _, _, _, _, _, _, _] T [0] [1, 2, 3, 4, 5, 6, 7, 8, 9] 10 rfl rfl rfl (vf := []) (vc := []) rfl rfl Tryz.call188 (by decide) (by decide) rfl (fun w how hc => Xk [] bs bf bm id num fb (ZW f (bk * 256 + sl * 24) (packP key (num + 1) vs)).2 _ w hc) ?_)
        rintro _ _ ⟨rfl, rfl⟩
        refine gas rfl rfl <| gA <| Zp <| Zg <| ZY (.inl rfl) Tryz.results182 rfl (ZL (A := [_, _, _, _, _]) (B := [_, _, _, _, _, _, _, _, _, _]) (T := T) [0, 9, 1, 2, 3] 10 (by decide) (by decide) rfl rfl) ?_
        exact .inr (.inr ⟨by omega, hnf, (ZW f (bk * 256 + sl * 24) (packP key (num + 1) vs)).2, (ZW f (bk * 256 + sl * 24) (packP key (num + 1) vs)).1, m, nb, fb, num, WN (ZW f (bk * 256 + sl * 24) (packP key (num + 1) vs)).2 id, T, rfl, .inl ⟨⟨bk, sl, hroom, rfl, rfl, .inl ⟨h97, rfl, rfl, rfl⟩⟩, rfl⟩, hms, (fun _ h => h), w1, by omega, by omega, rfl⟩)
      refine gA <| Zk rfl <| Zu <| Ze <| Zb <| Za <| gm rfl rfl <| gnc rfl rfl <| gr rfl (Zd rfl (Yr _)) <| gr rfl (Zh Tryz.underlying136 rfl rfl (by exact Zo 0 rfl rfl)) ?_
      refine gr rfl (Xz (b := 1) rfl rfl (by omega)) ?_
      refine gnc rfl rfl <| gr rfl (Zd rfl (Yr _)) <| Zl (Z7 0 W7 rfl rfl rfl rfl rfl (by rfl) (by rfl) ?_)
      refine gA <| Zb <| ZP [0, 1, 2, 3, 4, 5, 6, 7, 8] false 8 rfl <| Zc 0 rfl rfl ⟨[0, 1, 2, 3, 4, 5, 6, 7, 8], by decide, rfl⟩ (Zf (Zm rfl)) ?_
      refine Zc 1 rfl rfl ⟨[0, 1, 2, 3, 4, 5, 6, 7, 8], by decide, rfl⟩ (Zf (ZI rfl)) ?_
      refine Zc 2 rfl rfl ⟨[0, 1, 2, 3, 4, 5, 6, 7, 8], by decide, rfl⟩ (Zf (Zd rfl (Yj _))) ?_
      refine Zc 3 rfl rfl ⟨[0, 1, 2, 3, 4, 5, 6, 7, 8], by decide, rfl⟩ (Zf (Zh Tryz.underlying135 rfl rfl (by exact Zo 0 rfl rfl))) ?_
      refine Zc 4 rfl rfl ⟨[0, 1, 2, 3, 4, 5, 6, 7, 8], by decide, rfl⟩ (Zf (Zm rfl)) ?_
      refine Zc 5 rfl rfl ⟨[0, 1, 2, 3, 4, 5, 6, 7, 8], by decide, rfl⟩ (Zf (Zt Tryz.underlying184 rfl Z6 rfl (by exact ZH 6 (off := 0) (k := 3) rfl rfl) rfl)) ?_
      refine Zc 6 rfl rfl ⟨[0, 1, 2, 3, 4, 5, 6, 7, 8], by decide, rfl⟩ (Zf (Zt Tryz.underlying182 rfl Ya rfl (by exact ZH 7 (off := 0) (k := 2) rfl rfl) rfl)) ?_
      refine Zc 7 rfl rfl ⟨[0, 1, 2, 3, 4, 5, 6, 7, 8], by decide, rfl⟩ (Zf (ZJ rfl (fun _ => YO _ _ _ _ _ _ _))) ?_
      refine ZG 8 rfl (.inr ⟨[0, 1, 2, 3, 4, 5, 6, 7, 8], by decide, rfl⟩) (YM 9 HV (v := ⟨⟨key, num + 1, vs, bk, sl⟩, rv, cv⟩) Tryz.underlying135 Tryz.underlying3 rfl rfl rfl rfl rfl ?_)
      refine ZS (.inl (by kernel_rfl)) ?_
      refine Ze <| Zb <| Za <| gas rfl rfl <| gA <| Zp ?_
      have hw0 : (ZW f (bk * 256 + sl * 24) (packP key (num + 1) vs)).2 = 0 := Decidable.byContradiction h97
      have hen2 : EnOk ⟨key, num + 1, vs, bk, sl⟩ := ⟨hkey, hnum, hv16, hvs, (by have := hroom.hbk; simp only; omega), hroom.hsl⟩
      refine ZY (.inl rfl) Tryz.results182 rfl (ZL (A := [_, _, _, _, _, _]) (B := [_, _, _, _, _, _, _, _, _, _]) (T := T) [0, 9, 1, 2, 3, 5] 10 (by decide) (by decide) rfl rfl) ?_
      exact .inr (.inr ⟨by omega, hnf, 0, (ZW f (bk * 256 + sl * 24) (packP key (num + 1) vs)).1, XT ((key : Nat) : Int) ⟨⟨key, num + 1, vs, bk, sl⟩, rv, cv⟩ nb m, mnb ((key : Nat) : Int) m nb, fb, num + 1, id, He.row ⟨⟨key, num + 1, vs, bk, sl⟩, rv, cv⟩ :: T, rfl, .inl ⟨⟨bk, sl, hroom, rfl, hw0.symm, .inr ⟨rfl, XP ⟨⟨key, num + 1, vs, bk, sl⟩, rv, cv⟩ nb hms.key, rfl, rfl⟩⟩, rfl⟩, hms.put ⟨⟨key, num + 1, vs, bk, sl⟩, rv, cv⟩ hen2 (fun y hy => List.mem_cons_of_mem _ hy) List.mem_cons_self, (fun y hy => List.mem_cons_of_mem _ hy), w1, by omega, by omega, rfl⟩)
    refine gm rfl rfl <| gr rfl (Zv rfl rfl) <| gr rfl (Zv rfl rfl) <| Zl (ZN Ya rfl rfl (fun b10 => ?_))
    refine Zl (Zy 0 Ya rfl rfl rfl rfl rfl rfl (by rfl) ?_)
    refine gas rfl rfl <| gA <| Zb <| Zb <| Za <| gm rfl rfl <| gr rfl (rd_not rfl) <| gA <| Zj rfl <| Zb <| Zb <| Za <| gm rfl rfl <| Zl (Zca [_, _, _, _, _, _, _] T [2, 3, 4, 5, 6] [0, 1] 7 rfl rfl rfl (vf := []) (vc := []) rfl rfl Tryz.call187 (by decide) (by decide) rfl (fun w how hc => Zj1 f hf bs bf (some gb) cb rp cp id bm num fb m nb T hms _ w hc hml hfb hbn (by omega) (by omega)) ?_)
    rintro _ _ ⟨e1, f1, m1, nb1, fb1, rfl, hcl, hm1, hf1, hl1, hp1, rfl⟩
    refine Je [_, _, _, _, _] T [_, _] <| gas rfl rfl <| gA <| Zb <| Za <| gm rfl rfl <| gr rfl (ZX rfl rfl) (Zx (fun h71 => ?_) (fun h71 => ?_))
    · refine gA <| Zj rfl <| Zb <| Za <| gm rfl rfl <| gm rfl rfl <| Zl (Yl [_, _, _, _, _, _, _] T [0] [1, 2, 3, 4, 5, 6] 7 rfl rfl rfl (vf := []) (vc := []) rfl rfl Tryz.call188 (by decide) (by decide) rfl (fun w how hc => Xk [] bs bf bm id num fb1 e1 _ w hc) ?_)
      rintro _ _ ⟨rfl, rfl⟩
      refine gas rfl rfl <| gA <| Zp <| Zg <| Zg <| ZY (.inl rfl) Tryz.results182 rfl (ZL (A := [_, _, _, _, _]) (B := [_, _, _, _, _, _, _]) (T := T) [0, 1, 2, 3, 4] 7 (by decide) (by decide) rfl rfl) ?_
      exact .inr (.inr ⟨by omega, hnf, e1, f1, m1, nb1, fb1, num, WN e1 id, T, rfl, .inr ⟨hno, e1, f1, plain m1, fb1, hcl, .inl ⟨h71, rfl, rfl, rfl, rfl, rfl, rfl⟩⟩, hm1, (fun _ h => h), hf1, hl1, by omega, rfl⟩)
    refine gA <| Zk rfl <| Zu <| Ze <| Zb <| Za <| gm rfl rfl <| Zl (ZD rfl (vf := []) (vc := []) rfl rfl Tryz.call186 (fun w1 ho => Zh8 (gb := gb) (Zh3 f1 hf1 bs bf gb cb rp cp id bm num fb1 w1 (ho.blkCells 0 rfl) (ho.blkCells 2 rfl) (ho.rowSl 3 rfl) (by omega))) ?_)
    rintro _ _ (⟨bk, sl, rfl, hroom, rfl⟩ | ⟨bk, sl, rfl, hno2, rfl⟩)
    · refine gm rfl rfl <| gr rfl (Zv rfl rfl) <| gr rfl (Zv rfl rfl) <| Zl (Zy 5 Ya rfl rfl rfl rfl rfl rfl (by rfl) ?_)
      refine gas rfl rfl <| gA <| Zb <| Za <| gm rfl rfl <| gr rfl (rd_not rfl) <| gA <| Zk rfl <| Zu <| Ze <| Zb <| ZP [0, 1, 2, 3, 4, 5, 6] false 10 rfl <| Zc 0 rfl rfl ⟨[0, 1, 2, 3, 4, 5, 6], by decide, rfl⟩ (Zf (Zm rfl)) ?_
      refine Zc 1 rfl rfl ⟨[0, 1, 2, 3, 4, 5, 6], by decide, rfl⟩ (Zf (Zm rfl)) ?_
      refine Zc 2 rfl rfl ⟨[0, 1, 2, 3, 4, 5, 6], by decide, rfl⟩ (Zf (ZI rfl)) ?_
      refine Zc 3 rfl rfl ⟨[0, 1, 2, 3, 4, 5, 6], by decide, rfl⟩ (Zf (Zd rfl (Yr _))) ?_
      refine Zc 4 rfl rfl ⟨[0, 1, 2, 3, 4, 5, 6], by decide, rfl⟩ (Zf (Zh Tryz.underlying136 rfl rfl (by exact Zo 0 rfl rfl))) ?_
      refine Zc 5 rfl rfl ⟨[0, 1, 2, 3, 4, 5, 6], by decide, rfl⟩ (Zf (Xz (b := 1) rfl rfl (by omega))) ?_
      refine Zc 6 rfl rfl ⟨[0, 1, 2, 3, 4, 5, 6], by decide, rfl⟩ (Zf (Zm rfl)) ?_
      refine Zdx 7 9 (Gv.bm 11 255) (Gv.bm 11 639) rfl rfl rfl rfl (by kernel_rfl) (by kernel_rfl) (by kernel_rfl) (.inr ⟨[0, 1, 2, 3, 4, 5, 6], by decide, rfl⟩) ?_ ?_
      · refine (ZD rfl (vf := []) (vc := []) rfl rfl Tryz.call39 (fun w2 ho => Xy vs a ca w2 (hsl.at ho) (by omega)) ?_)
        rintro _ _ ⟨rv, cv, rfl, rfl⟩
        refine Zc 8 rfl rfl ⟨[1, 2, 3, 4, 5, 6, 7], by decide, rfl⟩ (Zf (ZJ rfl (fun _ => Xd _ _ _ _ _))) ?_
        refine ZG 9 rfl (.inr ⟨[1, 2, 3, 4, 5, 6, 7], by decide, rfl⟩) (ZN Z6 rfl rfl (fun b13 => ?_))
        refine ZG 10 rfl (.inr ⟨[2, 3, 4, 5, 6, 7, 8], by decide, rfl⟩) (Zy 0 Z6 rfl rfl rfl rfl rfl rfl (by rfl) ?_)
        refine ZS (.inl (by kernel_rfl)) ?_
        refine Ze <| Zb <| Zb ?_
        have hbkn := hroom.hbk
        have hslt := hroom.hsl
        have hplt := XN (num := num + 1) (show key < 65536 by omega) hvs hv16
        have hp24 := Xe (key := key) (num := num + 1) hv16
        obtain ⟨w1, w2, w3, w4, w5⟩ := VU hf1 (o := bk * 256 + sl * 24) hplt (packP key (num + 1) vs).length (by omega)
        rw [show Xm f1 (bk * 256 + sl * 24) (packP key (num + 1) vs) (packP key (num + 1) vs).length = ZW f1 (bk * 256 + sl * 24) (packP key (num + 1) vs) from rfl] at w1 w2 w3 w4 w5
        rw [hp24] at w2
        refine ZP [0, 1, 3, 7, 8] true 5 rfl <| Zc 0 rfl rfl ⟨[0, 1, 3, 7, 8], by decide, rfl⟩ (Zf (Zm rfl)) ?_
        refine Zc 1 rfl rfl ⟨[0, 1, 3, 7, 8], by decide, rfl⟩ (Zf (Zt Tryz.underlying182 rfl Ya rfl (by exact ZH 3 (off := 0) (k := 2) rfl rfl) rfl)) ?_
        refine Zc 2 rfl rfl ⟨[0, 1, 3, 7, 8], by decide, rfl⟩ (Zf (Zt Tryz.underlying184 rfl Z6 rfl (by exact ZH 0 (off := 0) (k := 3) rfl rfl) rfl)) ?_
        refine ZG 3 rfl (.inr ⟨[0, 1, 3, 7, 8], by decide, rfl⟩) (ZD rfl (vf := []) (vc := []) rfl rfl Tryz.call190 (fun w2 ho => Wd ⟨⟨key, num + 1, vs, bk, sl⟩, rv, cv⟩ ⟨hkey, hnum, hv16, hvs, (by simp only; omega), (by simp only; omega)⟩ (num + 1) hnum w2 (ho.rowSl 1 rfl) (WW (x := ⟨⟨key, num + 1, vs, bk, sl⟩, rv, cv⟩) ho (List.mem_of_getElem? (i := 1) rfl))) ?_)
        rintro _ _ ⟨rr, cr, rfl, rfl⟩
        refine ZG 4 rfl (.inr ⟨[1, 2, 4, 8, 9], by decide, rfl⟩) (Yl [_, _, _, _, _, _, _, _, _, _] T [3, 5, 6, 7] [0, 1, 2, 4, 8, 9] 10 rfl rfl rfl (vf := []) (vc := []) rfl rfl Tryz.call189 (by decide) (by decide) rfl (fun w how hc => Wc f1 hf1 bs bf (some gb) cb rp cp id bm num fb1 _ w hc (by omega) bk sl (by have := hroom.hbk; omega) hroom.hsl (packP key (num + 1) vs) hplt hp24 (some ⟨rr, 0, none⟩) 24 (Jm how 0 [3, 5, 6, 7] rfl (by decide))) ?_)
        rintro _ _ ⟨rfl, rfl⟩
        refine Zc 5 rfl rfl ⟨[5, 6, 7, 8, 9], by decide, rfl⟩ (Zf (ZV rfl)) ?_
        refine ZS (.inr ⟨[5, 6, 7, 8, 9], by decide, rfl⟩) ?_
        refine Ze <| Zb <| Za <| gm rfl rfl <| gr rfl (ZX rfl rfl) (Zx (fun h97 => ?_) (fun h97 => ?_))
        · refine gA <| Zj rfl <| Zb <| Za <| gm rfl rfl <| gm rfl rfl <| Zl (Yl [_, _, _, _, _, _, _, _, _, _] T [0] [1, 2, 3, 4, 5, 6, 7, 8, 9] 10 rfl rfl rfl (vf := []) (vc := []) rfl rfl Tryz.call188 (by decide) (by decide) rfl (fun w how hc => Xk [] bs bf bm id num fb1 (ZW f1 (bk * 256 + sl * 24) (packP key (num + 1) vs)).2 _ w hc) ?_)
          rintro _ _ ⟨rfl, rfl⟩
          refine gas rfl rfl <| gA <| Zp <| Zg <| ZY (.inl rfl) Tryz.results182 rfl (ZL (A := [_, _, _, _, _]) (B := [_, _, _, _, _, _, _, _, _, _]) (T := T) [0, 7, 1, 2, 3] 10 (by decide) (by decide) rfl rfl) ?_
          exact .inr (.inr ⟨by omega, hnf, (ZW f1 (bk * 256 + sl * 24) (packP key (num + 1) vs)).2, (ZW f1 (bk * 256 + sl * 24) (packP key (num + 1) vs)).1, m1, nb1, fb1, num, WN (ZW f1 (bk * 256 + sl * 24) (packP key (num + 1) vs)).2 id, T, rfl, .inr ⟨hno, e1, f1, plain m1, fb1, hcl, .inr (.inr ⟨by omega, ⟨bk, sl, hroom, rfl, rfl, .inl ⟨h97, rfl, rfl, rfl⟩⟩, rfl⟩)⟩, hm1, (fun _ h => h), w1, by omega, by omega, rfl⟩)
        refine gA <| Zk rfl <| Zu <| Ze <| Zb <| Za <| gm rfl rfl <| gnc rfl rfl <| gr rfl (Zd rfl (Yr _)) <| gr rfl (Zh Tryz.underlying136 rfl rfl (by exact Zo 0 rfl rfl)) ?_
        refine gr rfl (Xz (b := 1) rfl rfl (by omega)) ?_
        refine gnc rfl rfl <| gr rfl (Zd rfl (Yr _)) <| Zl (Z7 0 W7 rfl rfl rfl rfl rfl (by rfl) (by rfl) ?_)
        refine gA <| Zb <| ZP [0, 1, 2, 3, 4, 5, 6, 8, 9] false 8 rfl <| Zc 0 rfl rfl ⟨[0, 1, 2, 3, 4, 5, 6, 8, 9], by decide, rfl⟩ (Zf (Zm rfl)) ?_
        refine Zc 1 rfl rfl ⟨[0, 1, 2, 3, 4, 5, 6, 8, 9], by decide, rfl⟩ (Zf (ZI rfl)) ?_
        refine Zc 2 rfl rfl ⟨[0, 1, 2, 3, 4, 5, 6, 8, 9], by decide, rfl⟩ (Zf (Zd rfl (Yj _))) ?_
        refine Zc 3 rfl rfl ⟨[0, 1, 2, 3, 4, 5, 6, 8, 9], by decide, rfl⟩ (Zf (Zh Tryz.underlying135 rfl rfl (by exact Zo 0 rfl rfl))) ?_
        refine Zc 4 rfl rfl ⟨[0, 1, 2, 3, 4, 5, 6, 8, 9], by decide, rfl⟩ (Zf (Zm rfl)) ?_
        refine Zc 5 rfl rfl ⟨[0, 1, 2, 3, 4, 5, 6, 8, 9], by decide, rfl⟩ (Zf (Zt Tryz.underlying184 rfl Z6 rfl (by exact ZH 5 (off := 0) (k := 3) rfl rfl) rfl)) ?_
        refine Zc 6 rfl rfl ⟨[0, 1, 2, 3, 4, 5, 6, 8, 9], by decide, rfl⟩ (Zf (Zt Tryz.underlying182 rfl Ya rfl (by exact ZH 7 (off := 0) (k := 2) rfl rfl) rfl)) ?_
        refine Zc 7 rfl rfl ⟨[0, 1, 2, 3, 4, 5, 6, 8, 9], by decide, rfl⟩ (Zf (ZJ rfl (fun _ => YO _ _ _ _ _ _ _))) ?_
        refine ZG 8 rfl (.inr ⟨[0, 1, 2, 3, 4, 5, 6, 8, 9], by decide, rfl⟩) (YM 7 HV (v := ⟨⟨key, num + 1, vs, bk, sl⟩, rv, cv⟩) Tryz.underlying135 Tryz.underlying3 rfl rfl rfl rfl rfl ?_)
        refine ZS (.inl (by kernel_rfl)) ?_
        refine Ze <| Zb <| Za <| gas rfl rfl <| gA <| Zp ?_
        have hw0 : (ZW f1 (bk * 256 + sl * 24) (packP key (num + 1) vs)).2 = 0 := Decidable.byContradiction h97
        have hen2 : EnOk ⟨key, num + 1, vs, bk, sl⟩ := ⟨hkey, hnum, hv16, hvs, (by have := hroom.hbk; simp only; omega), hroom.hsl⟩
        refine ZY (.inl rfl) Tryz.results182 rfl (ZL (A := [_, _, _, _, _, _]) (B := [_, _, _, _, _, _, _, _, _, _]) (T := T) [0, 7, 1, 2, 3, 6] 10 (by decide) (by decide) rfl rfl) ?_
        exact .inr (.inr ⟨by omega, hnf, 0, (ZW f1 (bk * 256 + sl * 24) (packP key (num + 1) vs)).1, XT ((key : Nat) : Int) ⟨⟨key, num + 1, vs, bk, sl⟩, rv, cv⟩ nb1 m1, mnb ((key : Nat) : Int) m1 nb1, fb1, num + 1, id, He.row ⟨⟨key, num + 1, vs, bk, sl⟩, rv, cv⟩ :: T, rfl, .inr ⟨hno, e1, f1, plain m1, fb1, hcl, .inr (.inr ⟨by omega, ⟨bk, sl, hroom, rfl, hw0.symm, .inr ⟨rfl, XP ⟨⟨key, num + 1, vs, bk, sl⟩, rv, cv⟩ nb1 hm1.key, rfl, rfl⟩⟩, rfl⟩)⟩, hm1.put ⟨⟨key, num + 1, vs, bk, sl⟩, rv, cv⟩ hen2 (fun y hy => List.mem_cons_of_mem _ hy) List.mem_cons_self, (fun y hy => List.mem_cons_of_mem _ hy), w1, by omega, by omega, rfl⟩)
      refine (ZN Z6 rfl rfl (fun b13 => ?_))
      refine ZG 7 rfl (.inr ⟨[1, 2, 3, 4, 5, 6, 7], by decide, rfl⟩) (ZD rfl (vf := []) (vc := []) rfl rfl Tryz.call39 (fun w2 ho => Xy vs a ca w2 (hsl.at ho) (by omega)) ?_)
      rintro _ _ ⟨rv, cv, rfl, rfl⟩
      refine Zc 8 rfl rfl ⟨[2, 3, 4, 5, 6, 7, 8], by decide, rfl⟩ (Zf (ZJ rfl (fun _ => Xd _ _ _ _ _))) ?_
      refine ZG 10 rfl (.inr ⟨[2, 3, 4, 5, 6, 7, 8], by decide, rfl⟩) (Zy 1 Z6 rfl rfl rfl rfl rfl rfl (by rfl) ?_)
      refine ZS (.inl (by kernel_rfl)) ?_
      refine Ze <| Zb <| Zb ?_
      have hbkn := hroom.hbk
      have hslt := hroom.hsl
      have hplt := XN (num := num + 1) (show key < 65536 by omega) hvs hv16
      have hp24 := Xe (key := key) (num := num + 1) hv16
      obtain ⟨w1, w2, w3, w4, w5⟩ := VU hf1 (o := bk * 256 + sl * 24) hplt (packP key (num + 1) vs).length (by omega)
      rw [show Xm f1 (bk * 256 + sl * 24) (packP key (num + 1) vs) (packP key (num + 1) vs).length = ZW f1 (bk * 256 + sl * 24) (packP key (num + 1) vs) from rfl] at w1 w2 w3 w4 w5
      rw [hp24] at w2
      refine ZP [0, 1, 3, 7, 8] true 5 rfl <| Zc 0 rfl rfl ⟨[0, 1, 3, 7, 8], by decide, rfl⟩ (Zf (Zm rfl)) ?_
      refine Zc 1 rfl rfl ⟨[0, 1, 3, 7, 8], by decide, rfl⟩ (Zf (Zt Tryz.underlying182 rfl Ya rfl (by exact ZH 3 (off := 0) (k := 2) rfl rfl) rfl)) ?_
      refine Zc 2 rfl rfl ⟨[0, 1, 3, 7, 8], by decide, rfl⟩ (Zf (Zt Tryz.underlying184 rfl Z6 rfl (by exact ZH 1 (off := 0) (k := 3) rfl rfl) rfl)) ?_
      refine ZG 3 rfl (.inr ⟨[0, 1, 3, 7, 8], by decide, rfl⟩) (ZD rfl (vf := []) (vc := []) rfl rfl Tryz.call190 (fun w2 ho => Wd ⟨⟨key, num + 1, vs, bk, sl⟩, rv, cv⟩ ⟨hkey, hnum, hv16, hvs, (by simp only; omega), (by simp only; omega)⟩ (num + 1) hnum w2 (ho.rowSl 0 rfl) (WW (x := ⟨⟨key, num + 1, vs, bk, sl⟩, rv, cv⟩) ho (List.mem_of_getElem? (i := 0) rfl))) ?_)
      rintro _ _ ⟨rr, cr, rfl, rfl⟩
      refine ZG 4 rfl (.inr ⟨[1, 2, 4, 8, 9], by decide, rfl⟩) (Yl [_, _, _, _, _, _, _, _, _, _] T [3, 5, 6, 7] [0, 1, 2, 4, 8, 9] 10 rfl rfl rfl (vf := []) (vc := []) rfl rfl Tryz.call189 (by decide) (by decide) rfl (fun w how hc => Wc f1 hf1 bs bf (some gb) cb rp cp id bm num fb1 _ w hc (by omega) bk sl (by have := hroom.hbk; omega) hroom.hsl (packP key (num + 1) vs) hplt hp24 (some ⟨rr, 0, none⟩) 24 (Jm how 0 [3, 5, 6, 7] rfl (by decide))) ?_)
      rintro _ _ ⟨rfl, rfl⟩
      refine Zc 5 rfl rfl ⟨[5, 6, 7, 8, 9], by decide, rfl⟩ (Zf (ZV rfl)) ?_
      refine ZS (.inr ⟨[5, 6, 7, 8, 9], by decide, rfl⟩) ?_
      refine Ze <| Zb <| Za <| gm rfl rfl <| gr rfl (ZX rfl rfl) (Zx (fun h97 => ?_) (fun h97 => ?_))
      · refine gA <| Zj rfl <| Zb <| Za <| gm rfl rfl <| gm rfl rfl <| Zl (Yl [_, _, _, _, _, _, _, _, _, _] T [0] [1, 2, 3, 4, 5, 6, 7, 8, 9] 10 rfl rfl rfl (vf := []) (vc := []) rfl rfl Tryz.call188 (by decide) (by decide) rfl (fun w how hc => Xk [] bs bf bm id num fb1 (ZW f1 (bk * 256 + sl * 24) (packP key (num + 1) vs)).2 _ w hc) ?_)
        rintro _ _ ⟨rfl, rfl⟩
        refine gas rfl rfl <| gA <| Zp <| Zg <| ZY (.inl rfl) Tryz.results182 rfl (ZL (A := [_, _, _, _, _]) (B := [_, _, _, _, _, _, _, _, _, _]) (T := T) [0, 7, 1, 2, 3] 10 (by decide) (by decide) rfl rfl) ?_
        exact .inr (.inr ⟨by omega, hnf, (ZW f1 (bk * 256 + sl * 24) (packP key (num + 1) vs)).2, (ZW f1 (bk * 256 + sl * 24) (packP key (num + 1) vs)).1, m1, nb1, fb1, num, WN (ZW f1 (bk * 256 + sl * 24) (packP key (num + 1) vs)).2 id, T, rfl, .inr ⟨hno, e1, f1, plain m1, fb1, hcl, .inr (.inr ⟨by omega, ⟨bk, sl, hroom, rfl, rfl, .inl ⟨h97, rfl, rfl, rfl⟩⟩, rfl⟩)⟩, hm1, (fun _ h => h), w1, by omega, by omega, rfl⟩)
      refine gA <| Zk rfl <| Zu <| Ze <| Zb <| Za <| gm rfl rfl <| gnc rfl rfl <| gr rfl (Zd rfl (Yr _)) <| gr rfl (Zh Tryz.underlying136 rfl rfl (by exact Zo 0 rfl rfl)) ?_
      refine gr rfl (Xz (b := 1) rfl rfl (by omega)) ?_
      refine gnc rfl rfl <| gr rfl (Zd rfl (Yr _)) <| Zl (Z7 0 W7 rfl rfl rfl rfl rfl (by rfl) (by rfl) ?_)
      refine gA <| Zb <| ZP [0, 1, 2, 3, 4, 5, 6, 8, 9] false 8 rfl <| Zc 0 rfl rfl ⟨[0, 1, 2, 3, 4, 5, 6, 8, 9], by decide, rfl⟩ (Zf (Zm rfl)) ?_
      refine Zc 1 rfl rfl ⟨[0, 1, 2, 3, 4, 5, 6, 8, 9], by decide, rfl⟩ (Zf (ZI rfl)) ?_
      refine Zc 2 rfl rfl ⟨[0, 1, 2, 3, 4, 5, 6, 8, 9], by decide, rfl⟩ (Zf (Zd rfl (Yj _))) ?_
      refine Zc 3 rfl rfl ⟨[0, 1, 2, 3, 4, 5, 6, 8, 9], by decide, rfl⟩ (Zf (Zh Tryz.underlying135 rfl rfl (by exact Zo 0 rfl rfl))) ?_
      refine Zc 4 rfl rfl ⟨[0, 1, 2, 3, 4, 5, 6, 8, 9], by decide, rfl⟩ (Zf (Zm rfl)) ?_
      refine Zc 5 rfl rfl ⟨[0, 1, 2, 3, 4, 5, 6, 8, 9], by decide, rfl⟩ (Zf (Zt Tryz.underlying184 rfl Z6 rfl (by exact ZH 6 (off := 0) (k := 3) rfl rfl) rfl)) ?_
      refine Zc 6 rfl rfl ⟨[0, 1, 2, 3, 4, 5, 6, 8, 9], by decide, rfl⟩ (Zf (Zt Tryz.underlying182 rfl Ya rfl (by exact ZH 7 (off := 0) (k := 2) rfl rfl) rfl)) ?_
      refine Zc 7 rfl rfl ⟨[0, 1, 2, 3, 4, 5, 6, 8, 9], by decide, rfl⟩ (Zf (ZJ rfl (fun _ => YO _ _ _ _ _ _ _))) ?_
      refine ZG 8 rfl (.inr ⟨[0, 1, 2, 3, 4, 5, 6, 8, 9], by decide, rfl⟩) (YM 7 HV (v := ⟨⟨key, num + 1, vs, bk, sl⟩, rv, cv⟩) Tryz.underlying135 Tryz.underlying3 rfl rfl rfl rfl rfl ?_)
      refine ZS (.inl (by kernel_rfl)) ?_
      refine Ze <| Zb <| Za <| gas rfl rfl <| gA <| Zp ?_
      have hw0 : (ZW f1 (bk * 256 + sl * 24) (packP key (num + 1) vs)).2 = 0 := Decidable.byContradiction h97
      have hen2 : EnOk ⟨key, num + 1, vs, bk, sl⟩ := ⟨hkey, hnum, hv16, hvs, (by have := hroom.hbk; simp only; omega), hroom.hsl⟩
      refine ZY (.inl rfl) Tryz.results182 rfl (ZL (A := [_, _, _, _, _, _]) (B := [_, _, _, _, _, _, _, _, _, _]) (T := T) [0, 7, 1, 2, 3, 5] 10 (by decide) (by decide) rfl rfl) ?_
      exact .inr (.inr ⟨by omega, hnf, 0, (ZW f1 (bk * 256 + sl * 24) (packP key (num + 1) vs)).1, XT ((key : Nat) : Int) ⟨⟨key, num + 1, vs, bk, sl⟩, rv, cv⟩ nb1 m1, mnb ((key : Nat) : Int) m1 nb1, fb1, num + 1, id, He.row ⟨⟨key, num + 1, vs, bk, sl⟩, rv, cv⟩ :: T, rfl, .inr ⟨hno, e1, f1, plain m1, fb1, hcl, .inr (.inr ⟨by omega, ⟨bk, sl, hroom, rfl, hw0.symm, .inr ⟨rfl, XP ⟨⟨key, num + 1, vs, bk, sl⟩, rv, cv⟩ nb1 hm1.key, rfl, rfl⟩⟩, rfl⟩)⟩, hm1.put ⟨⟨key, num + 1, vs, bk, sl⟩, rv, cv⟩ hen2 (fun y hy => List.mem_cons_of_mem _ hy) List.mem_cons_self, (fun y hy => List.mem_cons_of_mem _ hy), w1, by omega, by omega, rfl⟩)
    refine gm rfl rfl <| gr rfl (Zv rfl rfl) <| gr rfl (Zv rfl rfl) <| Zl (Zy 5 Ya rfl rfl rfl rfl rfl rfl (by rfl) ?_)
    refine gas rfl rfl <| gA <| Zb <| Za <| gm rfl rfl <| gr rfl (rd_not rfl) <| gA <| Zj rfl <| Zb <| Za <| gas rfl rfl <| gA <| Zp <| Zg <| ZY (.inl rfl) Tryz.results182 rfl (ZL (A := [_, _, _, _, _]) (B := [_, _, _, _, _, _, _]) (T := T) [0, 1, 2, 3, 4] 7 (by decide) (by decide) rfl rfl) ?_
    exact .inr (.inr ⟨by omega, hnf, 6, f1, m1, nb1, fb1, num, id, T, rfl, .inr ⟨hno, e1, f1, plain m1, fb1, hcl, .inr (.inl ⟨by omega, hno2, rfl, rfl, rfl, rfl, rfl, rfl⟩)⟩, hm1, (fun _ h => h), hf1, hl1, by omega, rfl⟩)
  refine Za <| gm rfl rfl <| gnc rfl rfl <| gr rfl (Zd rfl (Yj _)) <| gr rfl (Zh Tryz.underlying135 rfl rfl (by exact Zo 0 rfl rfl)) ?_
  refine gm rfl rfl <| gr rfl (Xc 1 HV rfl Tryz.underlying135 Tryz.underlying3 Yz rfl rfl) <| gm rfl rfl <| gr rfl (Zv rfl rfl) <| gr rfl (Zv rfl rfl) <| Zl (ZN Yz rfl rfl (fun b8 => ?_))
  rw [hg, Option.map_some, Option.getD_some, Option.isSome_some]
  refine Zl (Zy 0 Yz rfl rfl rfl rfl rfl rfl (by rfl) ?_)
  refine gas rfl rfl <| gA <| Zb <| Za <| gm rfl rfl <| gr rfl (rd_not rfl) <| gm rfl rfl <| Zs rfl rfl rfl <| Zs rfl rfl rfl <| Zs rfl rfl rfl <| Zs rfl rfl rfl <| Zs rfl rfl rfl <| Zs rfl rfl rfl <| Zs rfl rfl rfl <| Zs rfl rfl rfl <| gr rfl (Zq rfl rfl) <| gA <| Zk rfl <| Zu <| Ze <| Zb ?_
  have hnf : ¬ Full (plain m) (f.b.length / 256) key := fun ⟨h1, h2⟩ => by
    rw [(hms.get hg).2.2.2] at h1; cases h1
  refine Za <| gm rfl rfl <| Zl (ZD rfl (vf := []) (vc := []) rfl rfl Tryz.call186 (fun w1 ho => Zh8 (gb := gb) (Zh3 f hf bs bf gb cb rp cp id bm num fb w1 (ho.blkCells 1 rfl) (ho.blkCells 3 rfl) (ho.rowSl 4 rfl) (by omega))) ?_)
  rintro _ _ (⟨bk, sl, rfl, hroom, rfl⟩ | ⟨bk, sl, rfl, hno, rfl⟩)
  · refine gm rfl rfl <| gr rfl (Zv rfl rfl) <| gr rfl (Zv rfl rfl) <| Zl (ZN Ya rfl rfl (fun b10 => ?_))
    refine Zl (Zy 0 Ya rfl rfl rfl rfl rfl rfl (by rfl) ?_)
    refine gas rfl rfl <| gA <| Zb <| Zb <| Za <| gm rfl rfl <| gr rfl (rd_not rfl) <| gA <| Zk rfl <| Zu <| Ze <| Zb <| ZP [0, 1, 2, 3, 4, 5, 6] false 10 rfl <| Zc 0 rfl rfl ⟨[0, 1, 2, 3, 4, 5, 6], by decide, rfl⟩ (Zf (Zm rfl)) ?_
    refine Zc 1 rfl rfl ⟨[0, 1, 2, 3, 4, 5, 6], by decide, rfl⟩ (Zf (Zm rfl)) ?_
    refine Zc 2 rfl rfl ⟨[0, 1, 2, 3, 4, 5, 6], by decide, rfl⟩ (Zf (ZI rfl)) ?_
    refine Zc 3 rfl rfl ⟨[0, 1, 2, 3, 4, 5, 6], by decide, rfl⟩ (Zf (Zd rfl (Yr _))) ?_
    refine Zc 4 rfl rfl ⟨[0, 1, 2, 3, 4, 5, 6], by decide, rfl⟩ (Zf (Zh Tryz.underlying136 rfl rfl (by exact Zo 2 rfl rfl))) ?_
    refine Zc 5 rfl rfl ⟨[0, 1, 2, 3, 4, 5, 6], by decide, rfl⟩ (Zf (Xz (b := 1) rfl rfl (by omega))) ?_
    refine Zc 6 rfl rfl ⟨[0, 1, 2, 3, 4, 5, 6], by decide, rfl⟩ (Zf (Zm rfl)) ?_
    refine Zdx 7 9 (Gv.bm 11 255) (Gv.bm 11 639) rfl rfl rfl rfl (by kernel_rfl) (by kernel_rfl) (by kernel_rfl) (.inr ⟨[0, 1, 2, 3, 4, 5, 6], by decide, rfl⟩) ?_ ?_
    · refine (ZD rfl (vf := []) (vc := []) rfl rfl Tryz.call39 (fun w2 ho => Xy vs a ca w2 (hsl.at ho) (by omega)) ?_)
      rintro _ _ ⟨rv, cv, rfl, rfl⟩
      refine Zc 8 rfl rfl ⟨[1, 2, 3, 4, 5, 6, 7], by decide, rfl⟩ (Zf (ZJ rfl (fun _ => Xd _ _ _ _ _))) ?_
      refine ZG 9 rfl (.inr ⟨[1, 2, 3, 4, 5, 6, 7], by decide, rfl⟩) (ZN Z6 rfl rfl (fun b13 => ?_))
      refine ZG 10 rfl (.inr ⟨[2, 3, 4, 5, 6, 7, 8], by decide, rfl⟩) (Zy 0 Z6 rfl rfl rfl rfl rfl rfl (by rfl) ?_)
      refine ZS (.inl (by kernel_rfl)) ?_
      refine Ze <| Zb <| Zb ?_
      have hbkn := hroom.hbk
      have hslt := hroom.hsl
      have hplt := XN (num := num + 1) (show key < 65536 by omega) hvs hv16
      have hp24 := Xe (key := key) (num := num + 1) hv16
      obtain ⟨w1, w2, w3, w4, w5⟩ := VU hf (o := bk * 256 + sl * 24) hplt (packP key (num + 1) vs).length (by omega)
      rw [show Xm f (bk * 256 + sl * 24) (packP key (num + 1) vs) (packP key (num + 1) vs).length = ZW f (bk * 256 + sl * 24) (packP key (num + 1) vs) from rfl] at w1 w2 w3 w4 w5
      rw [hp24] at w2
      refine ZP [0, 1, 2, 3, 5] true 5 rfl <| Zc 0 rfl rfl ⟨[0, 1, 2, 3, 5], by decide, rfl⟩ (Zf (Zm rfl)) ?_
      refine Zc 1 rfl rfl ⟨[0, 1, 2, 3, 5], by decide, rfl⟩ (Zf (Zt Tryz.underlying182 rfl Ya rfl (by exact ZH 2 (off := 0) (k := 2) rfl rfl) rfl)) ?_
      refine Zc 2 rfl rfl ⟨[0, 1, 2, 3, 5], by decide, rfl⟩ (Zf (Zt Tryz.underlying184 rfl Z6 rfl (by exact ZH 0 (off := 0) (k := 3) rfl rfl) rfl)) ?_
      refine ZG 3 rfl (.inr ⟨[0, 1, 2, 3, 5], by decide, rfl⟩) (ZD rfl (vf := []) (vc := []) rfl rfl Tryz.call190 (fun w2 ho => Wd ⟨⟨key, num + 1, vs, bk, sl⟩, rv, cv⟩ ⟨hkey, hnum, hv16, hvs, (by simp only; omega), (by simp only; omega)⟩ (num + 1) hnum w2 (ho.rowSl 1 rfl) (WW (x := ⟨⟨key, num + 1, vs, bk, sl⟩, rv, cv⟩) ho (List.mem_of_getElem? (i := 1) rfl))) ?_)
      rintro _ _ ⟨rr, cr, rfl, rfl⟩
      refine ZG 4 rfl (.inr ⟨[1, 2, 3, 4, 6], by decide, rfl⟩) (Yl [_, _, _, _, _, _, _, _, _, _] T [5, 7, 8, 9] [0, 1, 2, 3, 4, 6] 10 rfl rfl rfl (vf := []) (vc := []) rfl rfl Tryz.call189 (by decide) (by decide) rfl (fun w how hc => Wc f hf bs bf (some gb) cb rp cp id bm num fb _ w hc (by omega) bk sl (by have := hroom.hbk; omega) hroom.hsl (packP key (num + 1) vs) hplt hp24 (some ⟨rr, 0, none⟩) 24 (Jm how 0 [5, 7, 8, 9] rfl (by decide))) ?_)
      rintro _ _ ⟨rfl, rfl⟩
      refine Zc 5 rfl rfl ⟨[5, 6, 7, 8, 9], by decide, rfl⟩ (Zf (ZV rfl)) ?_
      refine ZS (.inr ⟨[5, 6, 7, 8, 9], by decide, rfl⟩) ?_
      refine Ze <| Zb <| Za <| gm rfl rfl <| gr rfl (ZX rfl rfl) (Zx (fun h97 => ?_) (fun h97 => ?_))
      · refine gA <| Zj rfl <| Zb <| Za <| gm rfl rfl <| gm rfl rfl <| Zl (Yl [_, _, _, _, _, _, _, _, _, _] T [0] [1, 2, 3, 4, 5, 6, 7, 8, 9] 10 rfl rfl rfl (vf := []) (vc := []) rfl rfl Tryz.call188 (by decide) (by decide) rfl (fun w how hc => Xk [] bs bf bm id num fb (ZW f (bk * 256 + sl * 24) (packP key (num + 1) vs)).2 _ w hc) ?_)
        rintro _ _ ⟨rfl, rfl⟩
        refine gas rfl rfl <| gA <| Zp <| Zg <| ZY (.inl rfl) Tryz.results182 rfl (ZL (A := [_, _, _, _, _]) (B := [_, _, _, _, _, _, _, _, _, _]) (T := T) [0, 9, 1, 2, 3] 10 (by decide) (by decide) rfl rfl) ?_
        exact .inr (.inr ⟨by omega, hnf, (ZW f (bk * 256 + sl * 24) (packP key (num + 1) vs)).2, (ZW f (bk * 256 + sl * 24) (packP key (num + 1) vs)).1, m, nb, fb, num, WN (ZW f (bk * 256 + sl * 24) (packP key (num + 1) vs)).2 id, T, rfl, .inl ⟨⟨bk, sl, hroom, rfl, rfl, .inl ⟨h97, rfl, rfl, rfl⟩⟩, rfl⟩, hms, (fun _ h => h), w1, by omega, by omega, rfl⟩)
      refine gA <| Zk rfl <| Zu <| Ze <| Zb <| Za <| gm rfl rfl <| gnc rfl rfl <| gr rfl (Zd rfl (Yr _)) <| gr rfl (Zh Tryz.underlying136 rfl rfl (by exact Zo 0 rfl rfl)) ?_
      refine gr rfl (Xz (b := 1) rfl rfl (by omega)) ?_
      refine gnc rfl rfl <| gr rfl (Zd rfl (Yr _)) <| Zl (Z7 0 W7 rfl rfl rfl rfl rfl (by rfl) (by rfl) ?_)
      refine gA <| Zb <| ZP [0, 1, 2, 3, 4, 5, 6, 7, 8] false 8 rfl <| Zc 0 rfl rfl ⟨[0, 1, 2, 3, 4, 5, 6, 7, 8], by decide, rfl⟩ (Zf (Zm rfl)) ?_
      refine Zc 1 rfl rfl ⟨[0, 1, 2, 3, 4, 5, 6, 7, 8], by decide, rfl⟩ (Zf (ZI rfl)) ?_
      refine Zc 2 rfl rfl ⟨[0, 1, 2, 3, 4, 5, 6, 7, 8], by decide, rfl⟩ (Zf (Zd rfl (Yj _))) ?_
      refine Zc 3 rfl rfl ⟨[0, 1, 2, 3, 4, 5, 6, 7, 8], by decide, rfl⟩ (Zf (Zh Tryz.underlying135 rfl rfl (by exact Zo 0 rfl rfl))) ?_
      refine Zc 4 rfl rfl ⟨[0, 1, 2, 3, 4, 5, 6, 7, 8], by decide, rfl⟩ (Zf (Zm rfl)) ?_
      refine Zc 5 rfl rfl ⟨[0, 1, 2, 3, 4, 5, 6, 7, 8], by decide, rfl⟩ (Zf (Zt Tryz.underlying184 rfl Z6 rfl (by exact ZH 5 (off := 0) (k := 3) rfl rfl) rfl)) ?_
      refine Zc 6 rfl rfl ⟨[0, 1, 2, 3, 4, 5, 6, 7, 8], by decide, rfl⟩ (Zf (Zt Tryz.underlying182 rfl Ya rfl (by exact ZH 7 (off := 0) (k := 2) rfl rfl) rfl)) ?_
      refine Zc 7 rfl rfl ⟨[0, 1, 2, 3, 4, 5, 6, 7, 8], by decide, rfl⟩ (Zf (ZJ rfl (fun _ => YO _ _ _ _ _ _ _))) ?_
      refine ZG 8 rfl (.inr ⟨[0, 1, 2, 3, 4, 5, 6, 7, 8], by decide, rfl⟩) (YM 9 HV (v := ⟨⟨key, num + 1, vs, bk, sl⟩, rv, cv⟩) Tryz.underlying135 Tryz.underlying3 rfl rfl rfl rfl rfl ?_)
      refine ZS (.inl (by kernel_rfl)) ?_
      refine Ze <| Zb <| Za <| gas rfl rfl <| gA <| Zp ?_
      have hw0 : (ZW f (bk * 256 + sl * 24) (packP key (num + 1) vs)).2 = 0 := Decidable.byContradiction h97
      have hen2 : EnOk ⟨key, num + 1, vs, bk, sl⟩ := ⟨hkey, hnum, hv16, hvs, (by have := hroom.hbk; simp only; omega), hroom.hsl⟩
      refine ZY (.inl rfl) Tryz.results182 rfl (ZL (A := [_, _, _, _, _, _]) (B := [_, _, _, _, _, _, _, _, _, _]) (T := T) [0, 9, 1, 2, 3, 6] 10 (by decide) (by decide) rfl rfl) ?_
      exact .inr (.inr ⟨by omega, hnf, 0, (ZW f (bk * 256 + sl * 24) (packP key (num + 1) vs)).1, XT ((key : Nat) : Int) ⟨⟨key, num + 1, vs, bk, sl⟩, rv, cv⟩ nb m, mnb ((key : Nat) : Int) m nb, fb, num + 1, id, He.row ⟨⟨key, num + 1, vs, bk, sl⟩, rv, cv⟩ :: T, rfl, .inl ⟨⟨bk, sl, hroom, rfl, hw0.symm, .inr ⟨rfl, XP ⟨⟨key, num + 1, vs, bk, sl⟩, rv, cv⟩ nb hms.key, rfl, rfl⟩⟩, rfl⟩, hms.put ⟨⟨key, num + 1, vs, bk, sl⟩, rv, cv⟩ hen2 (fun y hy => List.mem_cons_of_mem _ hy) List.mem_cons_self, (fun y hy => List.mem_cons_of_mem _ hy), w1, by omega, by omega, rfl⟩)
    refine (ZN Z6 rfl rfl (fun b13 => ?_))
    refine ZG 7 rfl (.inr ⟨[1, 2, 3, 4, 5, 6, 7], by decide, rfl⟩) (ZD rfl (vf := []) (vc := []) rfl rfl Tryz.call39 (fun w2 ho => Xy vs a ca w2 (hsl.at ho) (by omega)) ?_)
    rintro _ _ ⟨rv, cv, rfl, rfl⟩
    refine Zc 8 rfl rfl ⟨[2, 3, 4, 5, 6, 7, 8], by decide, rfl⟩ (Zf (ZJ rfl (fun _ => Xd _ _ _ _ _))) ?_
    refine ZG 10 rfl (.inr ⟨[2, 3, 4, 5, 6, 7, 8], by decide, rfl⟩) (Zy 1 Z6 rfl rfl rfl rfl rfl rfl (by rfl) ?_)
    refine ZS (.inl (by kernel_rfl)) ?_
    refine Ze <| Zb <| Zb ?_
    have hbkn := hroom.hbk
    have hslt := hroom.hsl
    have hplt := XN (num := num + 1) (show key < 65536 by omega) hvs hv16
    have hp24 := Xe (key := key) (num := num + 1) hv16
    obtain ⟨w1, w2, w3, w4, w5⟩ := VU hf (o := bk * 256 + sl * 24) hplt (packP key (num + 1) vs).length (by omega)
    rw [show Xm f (bk * 256 + sl * 24) (packP key (num + 1) vs) (packP key (num + 1) vs).length = ZW f (bk * 256 + sl * 24) (packP key (num + 1) vs) from rfl] at w1 w2 w3 w4 w5
    rw [hp24] at w2
    refine ZP [0, 1, 2, 3, 5] true 5 rfl <| Zc 0 rfl rfl ⟨[0, 1, 2, 3, 5], by decide, rfl⟩ (Zf (Zm rfl)) ?_
    refine Zc 1 rfl rfl ⟨[0, 1, 2, 3, 5], by decide, rfl⟩ (Zf (Zt Tryz.underlying182 rfl Ya rfl (by exact ZH 2 (off := 0) (k := 2) rfl rfl) rfl)) ?_
    refine Zc 2 rfl rfl ⟨[0, 1, 2, 3, 5], by decide, rfl⟩ (Zf (Zt Tryz.underlying184 rfl Z6 rfl (by exact ZH 1 (off := 0) (k := 3) rfl rfl) rfl)) ?_
    refine ZG 3 rfl (.inr ⟨[0, 1, 2, 3, 5], by decide, rfl⟩) (ZD rfl (vf := []) (vc := []) rfl rfl Tryz.call190 (fun w2 ho => Wd ⟨⟨key, num + 1, vs, bk, sl⟩, rv, cv⟩ ⟨hkey, hnum, hv16, hvs, (by simp only; omega), (by simp only; omega)⟩ (num + 1) hnum w2 (ho.rowSl 0 rfl) (WW (x := ⟨⟨key, num + 1, vs, bk, sl⟩, rv, cv⟩) ho (List.mem_of_getElem? (i := 0) rfl))) ?_)
    rintro _ _ ⟨rr, cr, rfl, rfl⟩
    refine ZG 4 rfl (.inr ⟨[1, 2, 3, 4, 6], by decide, rfl⟩) (Yl [_, _, _, _, _, _, _, _, _, _] T [5, 7, 8, 9] [0, 1, 2, 3, 4, 6] 10 rfl rfl rfl (vf := []) (vc := []) rfl rfl Tryz.call189 (by decide) (by decide) rfl (fun w how hc => Wc f hf bs bf (some gb) cb rp cp id bm num fb _ w hc (by omega) bk sl (by have := hroom.hbk; omega) hroom.hsl (packP key (num + 1) vs) hplt hp24 (some ⟨rr, 0, none⟩) 24 (Jm how 0 [5, 7, 8, 9] rfl (by decide))) ?_)
    rintro _ _ ⟨rfl, rfl⟩
    refine Zc 5 rfl rfl ⟨[5, 6, 7, 8, 9], by decide, rfl⟩ (Zf (ZV rfl)) ?_
    refine ZS (.inr ⟨[5, 6, 7, 8, 9], by decide, rfl⟩) ?_
    refine Ze <| Zb <| Za <| gm rfl rfl <| gr rfl (ZX rfl rfl) (Zx (fun h97 => ?_) (fun h97 => ?_))
    · refine gA <| Zj rfl <| Zb <| Za <| gm rfl rfl <| gm rfl rfl <| Zl (Yl [_, _, _, _, _, _, _, _, _, _] T [0] [1, 2, 3, 4, 5, 6, 7, 8, 9] 10 rfl rfl rfl (vf := []) (vc := []) rfl rfl Tryz.call188 (by decide) (by decide) rfl (fun w how hc => Xk [] bs bf bm id num fb (ZW f (bk * 256 + sl * 24) (packP key (num + 1) vs)).2 _ w hc) ?_)
      rintro _ _ ⟨rfl, rfl⟩
      refine gas rfl rfl <| gA <| Zp <| Zg <| ZY (.inl rfl) Tryz.results182 rfl (ZL (A := [_, _, _, _, _]) (B := [_, _, _, _, _, _, _, _, _, _]) (T := T) [0, 9, 1, 2, 3] 10 (by decide) (by decide) rfl rfl) ?_
      exact .inr (.inr ⟨by omega, hnf, (ZW f (bk * 256 + sl * 24) (packP key (num + 1) vs)).2, (ZW f (bk * 256 + sl * 24) (packP key (num + 1) vs)).1, m, nb, fb, num, WN (ZW f (bk * 256 + sl * 24) (packP key (num + 1) vs)).2 id, T, rfl, .inl ⟨⟨bk, sl, hroom, rfl, rfl, .inl ⟨h97, rfl, rfl, rfl⟩⟩, rfl⟩, hms, (fun _ h => h), w1, by omega, by omega, rfl⟩)
    refine gA <| Zk rfl <| Zu <| Ze <| Zb <| Za <| gm rfl rfl <| gnc rfl rfl <| gr rfl (Zd rfl (Yr _)) <| gr rfl (Zh Tryz.underlying136 rfl rfl (by exact Zo 0 rfl rfl)) ?_
    refine gr rfl (Xz (b := 1) rfl rfl (by omega)) ?_
    refine gnc rfl rfl <| gr rfl (Zd rfl (Yr _)) <| Zl (Z7 0 W7 rfl rfl rfl rfl rfl (by rfl) (by rfl) ?_)
    refine gA <| Zb <| ZP [0, 1, 2, 3, 4, 5, 6, 7, 8] false 8 rfl <| Zc 0 rfl rfl ⟨[0, 1, 2, 3, 4, 5, 6, 7, 8], by decide, rfl⟩ (Zf (Zm rfl)) ?_
    refine Zc 1 rfl rfl ⟨[0, 1, 2, 3, 4, 5, 6, 7, 8], by decide, rfl⟩ (Zf (ZI rfl)) ?_
    refine Zc 2 rfl rfl ⟨[0, 1, 2, 3, 4, 5, 6, 7, 8], by decide, rfl⟩ (Zf (Zd rfl (Yj _))) ?_
    refine Zc 3 rfl rfl ⟨[0, 1, 2, 3, 4, 5, 6, 7, 8], by decide, rfl⟩ (Zf (Zh Tryz.underlying135 rfl rfl (by exact Zo 0 rfl rfl))) ?_
    refine Zc 4 rfl rfl ⟨[0, 1, 2, 3, 4, 5, 6, 7, 8], by decide, rfl⟩ (Zf (Zm rfl)) ?_
    refine Zc 5 rfl rfl ⟨[0, 1, 2, 3, 4, 5, 6, 7, 8], by decide, rfl⟩ (Zf (Zt Tryz.underlying184 rfl Z6 rfl (by exact ZH 6 (off := 0) (k := 3) rfl rfl) rfl)) ?_
    refine Zc 6 rfl rfl ⟨[0, 1, 2, 3, 4, 5, 6, 7, 8], by decide, rfl⟩ (Zf (Zt Tryz.underlying182 rfl Ya rfl (by exact ZH 7 (off := 0) (k := 2) rfl rfl) rfl)) ?_
    refine Zc 7 rfl rfl ⟨[0, 1, 2, 3, 4, 5, 6, 7, 8], by decide, rfl⟩ (Zf (ZJ rfl (fun _ => YO _ _ _ _ _ _ _))) ?_
    refine ZG 8 rfl (.inr ⟨[0, 1, 2, 3, 4, 5, 6, 7, 8], by decide, rfl⟩) (YM 9 HV (v := ⟨⟨key, num + 1, vs, bk, sl⟩, rv, cv⟩) Tryz.underlying135 Tryz.underlying3 rfl rfl rfl rfl rfl ?_)
    refine ZS (.inl (by kernel_rfl)) ?_
    refine Ze <| Zb <| Za <| gas rfl rfl <| gA <| Zp ?_
    have hw0 : (ZW f (bk * 256 + sl * 24) (packP key (num + 1) vs)).2 = 0 := Decidable.byContradiction h97
    have hen2 : EnOk ⟨key, num + 1, vs, bk, sl⟩ := ⟨hkey, hnum, hv16, hvs, (by have := hroom.hbk; simp only; omega), hroom.hsl⟩
    refine ZY (.inl rfl) Tryz.results182 rfl (ZL (A := [_, _, _, _, _, _]) (B := [_, _, _, _, _, _, _, _, _, _]) (T := T) [0, 9, 1, 2, 3, 5] 10 (by decide) (by decide) rfl rfl) ?_
    exact .inr (.inr ⟨by omega, hnf, 0, (ZW f (bk * 256 + sl * 24) (packP key (num + 1) vs)).1, XT ((key : Nat) : Int) ⟨⟨key, num + 1, vs, bk, sl⟩, rv, cv⟩ nb m, mnb ((key : Nat) : Int) m nb, fb, num + 1, id, He.row ⟨⟨key, num + 1, vs, bk, sl⟩, rv, cv⟩ :: T, rfl, .inl ⟨⟨bk, sl, hroom, rfl, hw0.symm, .inr ⟨rfl, XP ⟨⟨key, num + 1, vs, bk, sl⟩, rv, cv⟩ nb hms.key, rfl, rfl⟩⟩, rfl⟩, hms.put ⟨⟨key, num + 1, vs, bk, sl⟩, rv, cv⟩ hen2 (fun y hy => List.mem_cons_of_mem _ hy) List.mem_cons_self, (fun y hy => List.mem_cons_of_mem _ hy), w1, by omega, by omega, rfl⟩)
  refine gm rfl rfl <| gr rfl (Zv rfl rfl) <| gr rfl (Zv rfl rfl) <| Zl (ZN Ya rfl rfl (fun b10 => ?_))
  refine Zl (Zy 0 Ya rfl rfl rfl rfl rfl rfl (by rfl) ?_)
  refine gas rfl rfl <| gA <| Zb <| Zb <| Za <| gm rfl rfl <| gr rfl (rd_not rfl) <| gA <| Zj rfl <| Zb <| Zb <| Za <| gm rfl rfl <| Zl (Zca [_, _, _, _, _, _, _] T [2, 3, 4, 5, 6] [0, 1] 7 rfl rfl rfl (vf := []) (vc := []) rfl rfl Tryz.call187 (by decide) (by decide) rfl (fun w how hc => Zj1 f hf bs bf (some gb) cb rp cp id bm num fb m nb T hms _ w hc hml hfb hbn (by omega) (by omega)) ?_)
  rintro _ _ ⟨e1, f1, m1, nb1, fb1, rfl, hcl, hm1, hf1, hl1, hp1, rfl⟩
  refine Je [_, _, _, _, _] T [_, _] <| gas rfl rfl <| gA <| Zb <| Za <| gm rfl rfl <| gr rfl (ZX rfl rfl) (Zx (fun h71 => ?_) (fun h71 => ?_))
  · refine gA <| Zj rfl <| Zb <| Za <| gm rfl rfl <| gm rfl rfl <| Zl (Yl [_, _, _, _, _, _, _] T [0] [1, 2, 3, 4, 5, 6] 7 rfl rfl rfl (vf := []) (vc := []) rfl rfl Tryz.call188 (by decide) (by decide) rfl (fun w how hc => Xk [] bs bf bm id num fb1 e1 _ w hc) ?_)
    rintro _ _ ⟨rfl, rfl⟩
    refine gas rfl rfl <| gA <| Zp <| Zg <| Zg <| ZY (.inl rfl) Tryz.results182 rfl (ZL (A := [_, _, _, _, _]) (B := [_, _, _, _, _, _, _]) (T := T) [0, 1, 2, 3, 4] 7 (by decide) (by decide) rfl rfl) ?_
    exact .inr (.inr ⟨by omega, hnf, e1, f1, m1, nb1, fb1, num, WN e1 id, T, rfl, .inr ⟨hno, e1, f1, plain m1, fb1, hcl, .inl ⟨h71, rfl, rfl, rfl, rfl, rfl, rfl⟩⟩, hm1, (fun _ h => h), hf1, hl1, by omega, rfl⟩)
  refine gA <| Zk rfl <| Zu <| Ze <| Zb <| Za <| gm rfl rfl <| Zl (ZD rfl (vf := []) (vc := []) rfl rfl Tryz.call186 (fun w1 ho => Zh8 (gb := gb) (Zh3 f1 hf1 bs bf gb cb rp cp id bm num fb1 w1 (ho.blkCells 0 rfl) (ho.blkCells 2 rfl) (ho.rowSl 3 rfl) (by omega))) ?_)
  rintro _ _ (⟨bk, sl, rfl, hroom, rfl⟩ | ⟨bk, sl, rfl, hno2, rfl⟩)
  · refine gm rfl rfl <| gr rfl (Zv rfl rfl) <| gr rfl (Zv rfl rfl) <| Zl (Zy 5 Ya rfl rfl rfl rfl rfl rfl (by rfl) ?_)
    refine gas rfl rfl <| gA <| Zb <| Za <| gm rfl rfl <| gr rfl (rd_not rfl) <| gA <| Zk rfl <| Zu <| Ze <| Zb <| ZP [0, 1, 2, 3, 4, 5, 6] false 10 rfl <| Zc 0 rfl rfl ⟨[0, 1, 2, 3, 4, 5, 6], by decide, rfl⟩ (Zf (Zm rfl)) ?_
    refine Zc 1 rfl rfl ⟨[0, 1, 2, 3, 4, 5, 6], by decide, rfl⟩ (Zf (Zm rfl)) ?_
    refine Zc 2 rfl rfl ⟨[0, 1, 2, 3, 4, 5, 6], by decide, rfl⟩ (Zf (ZI rfl)) ?_
    refine Zc 3 rfl rfl ⟨[0, 1, 2, 3, 4, 5, 6], by decide, rfl⟩ (Zf (Zd rfl (Yr _))) ?_
    refine Zc 4 rfl rfl ⟨[0, 1, 2, 3, 4, 5, 6], by decide, rfl⟩ (Zf (Zh Tryz.underlying136 rfl rfl (by exact Zo 0 rfl rfl))) ?_
    refine Zc 5 rfl rfl ⟨[0, 1, 2, 3, 4, 5, 6], by decide, rfl⟩ (Zf (Xz (b := 1) rfl rfl (by omega))) ?_
    refine Zc 6 rfl rfl ⟨[0, 1, 2, 3, 4, 5, 6], by decide, rfl⟩ (Zf (Zm rfl)) ?_
    refine Zdx 7 9 (Gv.bm 11 255) (Gv.bm 11 639) rfl rfl rfl rfl (by kernel_rfl) (by kernel_rfl) (by kernel_rfl) (.inr ⟨[0, 1, 2, 3, 4, 5, 6], by decide, rfl⟩) ?_ ?_
    · refine (ZD rfl (vf := []) (vc := []) rfl rfl Tryz.call39 (fun w2 ho => Xy vs a ca w2 (hsl.at ho) (by omega)) ?_)
      rintro _ _ ⟨rv, cv, rfl, rfl⟩
      refine Zc 8 rfl rfl ⟨[1, 2, 3, 4, 5, 6, 7], by decide, rfl⟩ (Zf (ZJ rfl (fun _ => Xd _ _ _ _ _))) ?_
      refine ZG 9 rfl (.inr ⟨[1, 2, 3, 4, 5, 6, 7], by decide, rfl⟩) (ZN Z6 rfl rfl (fun b13 => ?_))
      refine ZG 10 rfl (.inr ⟨[2, 3, 4, 5, 6, 7, 8], by decide, rfl⟩) (Zy 0 Z6 rfl rfl rfl rfl rfl rfl (by rfl) ?_)
      refine ZS (.inl (by kernel_rfl)) ?_
      refine Ze <| Zb <| Zb ?_
      have hbkn := hroom.hbk
      have hslt := hroom.hsl
      have hplt := XN (num := num + 1) (show key < 65536 by omega) hvs hv16
      have hp24 := Xe (key := key) (num := num + 1) hv16
      obtain ⟨w1, w2, w3, w4, w5⟩ := VU hf1 (o := bk * 256 + sl * 24) hplt (packP key (num + 1) vs).length (by omega)
      rw [show Xm f1 (bk * 256 + sl * 24) (packP key (num + 1) vs) (packP key (num + 1) vs).length = ZW f1 (bk * 256 + sl * 24) (packP key (num + 1) vs) from rfl] at w1 w2 w3 w4 w5
      rw [hp24] at w2
      refine ZP [0, 1, 3, 7, 8] true 5 rfl <| Zc 0 rfl rfl ⟨[0, 1, 3, 7, 8], by decide, rfl⟩ (Zf (Zm rfl)) ?_
      refine Zc 1 rfl rfl ⟨[0, 1, 3, 7, 8], by decide, rfl⟩ (Zf (Zt Tryz.underlying182 rfl Ya rfl (by exact ZH 3 (off := 0) (k := 2) rfl rfl) rfl)) ?_
      refine Zc 2 rfl rfl ⟨[0, 1, 3, 7, 8], by decide, rfl⟩ (Zf (Zt Tryz.underlying184 rfl Z6 rfl (by exact ZH 0 (off := 0) (k := 3) rfl rfl) rfl)) ?_
      refine ZG 3 rfl (.inr ⟨[0, 1, 3, 7, 8], by decide, rfl⟩) (ZD rfl (vf := []) (vc := []) rfl rfl Tryz.call190 (fun w2 ho => Wd ⟨⟨key, num + 1, vs, bk, sl⟩, rv, cv⟩ ⟨hkey, hnum, hv16, hvs, (by simp only; omega), (by simp only; omega)⟩ (num + 1) hnum w2 (ho.rowSl 1 rfl) (WW (x := ⟨⟨key, num + 1, vs, bk, sl⟩, rv, cv⟩) ho (List.mem_of_getElem? (i := 1) rfl))) ?_)
      rintro _ _ ⟨rr, cr, rfl, rfl⟩
      refine ZG 4 rfl (.inr ⟨[1, 2, 4, 8, 9], by decide, rfl⟩) (Yl [_, _, _, _, _, _, _, _, _, _] T [3, 5, 6, 7] [0, 1, 2, 4, 8, 9] 10 rfl rfl rfl (vf := []) (vc := []) rfl rfl Tryz.call189 (by decide) (by decide) rfl (fun w how hc => Wc f1 hf1 bs bf (some gb) cb rp cp id bm num fb1 _ w hc (by omega) bk sl (by have := hroom.hbk; omega) hroom.hsl (packP key (num + 1) vs) hplt hp24 (some ⟨rr, 0, none⟩) 24 (Jm how 0 [3, 5, 6, 7] rfl (by decide))) ?_)
      rintro _ _ ⟨rfl, rfl⟩
      refine Zc 5 rfl rfl ⟨[5, 6, 7, 8, 9], by decide, rfl⟩ (Zf (ZV rfl)) ?_
      refine ZS (.inr ⟨[5, 6, 7, 8, 9], by decide, rfl⟩) ?_
      refine Ze <| Zb <| Za <| gm rfl rfl <| gr rfl (ZX rfl rfl) (Zx (fun h97 => ?_) (fun h97 => ?_))
      · refine gA <| Zj rfl <| Zb <| Za <| gm rfl rfl <| gm rfl rfl <| Zl (Yl [_, _, _, _, _, _, _, _, _, _] T [0] [1, 2, 3, 4, 5, 6, 7, 8, 9] 10 rfl rfl rfl (vf := []) (vc := []) rfl rfl Tryz.call188 (by decide) (by decide) rfl (fun w how hc => Xk [] bs bf bm id num fb1 (ZW f1 (bk * 256 + sl * 24) (packP key (num + 1) vs)).2 _ w hc) ?_)
        rintro _ _ ⟨rfl, rfl⟩
        refine gas rfl rfl <| gA <| Zp <| Zg <| ZY (.inl rfl) Tryz.results182 rfl (ZL (A := [_, _, _, _, _]) (B := [_, _, _, _, _, _, _, _, _, _]) (T := T) [0, 7, 1, 2, 3] 10 (by decide) (by decide) rfl rfl) ?_
        exact .inr (.inr ⟨by omega, hnf, (ZW f1 (bk * 256 + sl * 24) (packP key (num + 1) vs)).2, (ZW f1 (bk * 256 + sl * 24) (packP key (num + 1) vs)).1, m1, nb1, fb1, num, WN (ZW f1 (bk * 256 + sl * 24) (packP key (num + 1) vs)).2 id, T, rfl, .inr ⟨hno, e1, f1, plain m1, fb1, hcl, .inr (.inr ⟨by omega, ⟨bk, sl, hroom, rfl, rfl, .inl ⟨h97, rfl, rfl, rfl⟩⟩, rfl⟩)⟩, hm1, (fun _ h => h), w1, by omega, by omega, rfl⟩)
      refine gA <| Zk rfl <| Zu <| Ze <| Zb <| Za <| gm rfl rfl <| gnc rfl rfl <| gr rfl (Zd rfl (Yr _)) <| gr rfl (Zh Tryz.underlying136 rfl rfl (by exact Zo 0 rfl rfl)) ?_
      refine gr rfl (Xz (b := 1) rfl rfl (by omega)) ?_
      refine gnc rfl rfl <| gr rfl (Zd rfl (Yr _)) <| Zl (Z7 0 W7 rfl rfl rfl rfl rfl (by rfl) (by rfl) ?_)
      refine gA <| Zb <| ZP [0, 1, 2, 3, 4, 5, 6, 8, 9] false 8 rfl <| Zc 0 rfl rfl ⟨[0, 1, 2, 3, 4, 5, 6, 8, 9], by decide, rfl⟩ (Zf (Zm rfl)) ?_
      refine Zc 1 rfl rfl ⟨[0, 1, 2, 3, 4, 5, 6, 8, 9], by decide, rfl⟩ (Zf (ZI rfl)) ?_
      refine Zc 2 rfl rfl ⟨[0, 1, 2, 3, 4, 5, 6, 8, 9], by decide, rfl⟩ (Zf (Zd rfl (Yj _))) ?_
      refine Zc 3 rfl rfl ⟨[0, 1, 2, 3, 4, 5, 6, 8, 9], by decide, rfl⟩ (Zf (Zh Tryz.underlying135 rfl rfl (by exact Zo 0 rfl rfl))) ?_
      refine Zc 4 rfl rfl ⟨[0, 1, 2, 3, 4, 5, 6, 8, 9], by decide, rfl⟩ (Zf (Zm rfl)) ?_
      refine Zc 5 rfl rfl ⟨[0, 1, 2, 3, 4, 5, 6, 8, 9], by decide, rfl⟩ (Zf (Zt Tryz.underlying184 rfl Z6 rfl (by exact ZH 5 (off := 0) (k := 3) rfl rfl) rfl)) ?_
      refine Zc 6 rfl rfl ⟨[0, 1, 2, 3, 4, 5, 6, 8, 9], by decide, rfl⟩ (Zf (Zt Tryz.underlying182 rfl Ya rfl (by exact ZH 7 (off := 0) (k := 2) rfl rfl) rfl)) ?_
      refine Zc 7 rfl rfl ⟨[0, 1, 2, 3, 4, 5, 6, 8, 9], by decide, rfl⟩ (Zf (ZJ rfl (fun _ => YO _ _ _ _ _ _ _))) ?_
      refine ZG 8 rfl (.inr ⟨[0, 1, 2, 3, 4, 5, 6, 8, 9], by decide, rfl⟩) (YM 7 HV (v := ⟨⟨key, num + 1, vs, bk, sl⟩, rv, cv⟩) Tryz.underlying135 Tryz.underlying3 rfl rfl rfl rfl rfl ?_)
      refine ZS (.inl (by kernel_rfl)) ?_
      refine Ze <| Zb <| Za <| gas rfl rfl <| gA <| Zp ?_
      have hw0 : (ZW f1 (bk * 256 + sl * 24) (packP key (num + 1) vs)).2 = 0 := Decidable.byContradiction h97
      have hen2 : EnOk ⟨key, num + 1, vs, bk, sl⟩ := ⟨hkey, hnum, hv16, hvs, (by have := hroom.hbk; simp only; omega), hroom.hsl⟩
      refine ZY (.inl rfl) Tryz.results182 rfl (ZL (A := [_, _, _, _, _, _]) (B := [_, _, _, _, _, _, _, _, _, _]) (T := T) [0, 7, 1, 2, 3, 6] 10 (by decide) (by decide) rfl rfl) ?_
      exact .inr (.inr ⟨by omega, hnf, 0, (ZW f1 (bk * 256 + sl * 24) (packP key (num + 1) vs)).1, XT ((key : Nat) : Int) ⟨⟨key, num + 1, vs, bk, sl⟩, rv, cv⟩ nb1 m1, mnb ((key : Nat) : Int) m1 nb1, fb1, num + 1, id, He.row ⟨⟨key, num + 1, vs, bk, sl⟩, rv, cv⟩ :: T, rfl, .inr ⟨hno, e1, f1, plain m1, fb1, hcl, .inr (.inr ⟨by omega, ⟨bk, sl, hroom, rfl, hw0.symm, .inr ⟨rfl, XP ⟨⟨key, num + 1, vs, bk, sl⟩, rv, cv⟩ nb1 hm1.key, rfl, rfl⟩⟩, rfl⟩)⟩, hm1.put ⟨⟨key, num + 1, vs, bk, sl⟩, rv, cv⟩ hen2 (fun y hy => List.mem_cons_of_mem _ hy) List.mem_cons_self, (fun y hy => List.mem_cons_of_mem _ hy), w1, by omega, by omega, rfl⟩)
    refine (ZN Z6 rfl rfl (fun b13 => ?_))
    refine ZG 7 rfl (.inr ⟨[1, 2, 3, 4, 5, 6, 7], by decide, rfl⟩) (ZD rfl (vf := []) (vc := []) rfl rfl Tryz.call39 (fun w2 ho => Xy vs a ca w2 (hsl.at ho) (by omega)) ?_)
    rintro _ _ ⟨rv, cv, rfl, rfl⟩
    refine Zc 8 rfl rfl ⟨[2, 3, 4, 5, 6, 7, 8], by decide, rfl⟩ (Zf (ZJ rfl (fun _ => Xd _ _ _ _ _))) ?_
    refine ZG 10 rfl (.inr ⟨[2, 3, 4, 5, 6, 7, 8], by decide, rfl⟩) (Zy 1 Z6 rfl rfl rfl rfl rfl rfl (by rfl) ?_)
    refine ZS (.inl (by kernel_rfl)) ?_
    refine Ze <| Zb <| Zb ?_
    have hbkn := hroom.hbk
    have hslt := hroom.hsl
    have hplt := XN (num := num + 1) (show key < 65536 by omega) hvs hv16
    have hp24 := Xe (key := key) (num := num + 1) hv16
    obtain ⟨w1, w2, w3, w4, w5⟩ := VU hf1 (o := bk * 256 + sl * 24) hplt (packP key (num + 1) vs).length (by omega)
    rw [show Xm f1 (bk * 256 + sl * 24) (packP key (num + 1) vs) (packP key (num + 1) vs).length = ZW f1 (bk * 256 + sl * 24) (packP key (num + 1) vs) from rfl] at w1 w2 w3 w4 w5
    rw [hp24] at w2
    refine ZP [0, 1, 3, 7, 8] true 5 rfl <| Zc 0 rfl rfl ⟨[0, 1, 3, 7, 8], by decide, rfl⟩ (Zf (Zm rfl)) ?_
    refine Zc 1 rfl rfl ⟨[0, 1, 3, 7, 8], by decide, rfl⟩ (Zf (Zt Tryz.underlying182 rfl Ya rfl (by exact ZH 3 (off := 0) (k := 2) rfl rfl) rfl)) ?_
    refine Zc 2 rfl rfl ⟨[0, 1, 3, 7, 8], by decide, rfl⟩ (Zf (Zt Tryz.underlying184 rfl Z6 rfl (by exact ZH 1 (off := 0) (k := 3) rfl rfl) rfl)) ?_
    refine ZG 3 rfl (.inr ⟨[0, 1, 3, 7, 8], by decide, rfl⟩) (ZD rfl (vf := []) (vc := []) rfl rfl Tryz.call190 (fun w2 ho => Wd ⟨⟨key, num + 1, vs, bk, sl⟩, rv, cv⟩ ⟨hkey, hnum, hv16, hvs, (by simp only; omega), (by simp only; omega)⟩ (num + 1) hnum w2 (ho.rowSl 0 rfl) (WW (x := ⟨⟨key, num + 1, vs, bk, sl⟩, rv, cv⟩) ho (List.mem_of_getElem? (i := 0) rfl))) ?_)
    rintro _ _ ⟨rr, cr, rfl, rfl⟩
    refine ZG 4 rfl (.inr ⟨[1, 2, 4, 8, 9], by decide, rfl⟩) (Yl [_, _, _, _, _, _, _, _, _, _] T [3, 5, 6, 7] [0, 1, 2, 4, 8, 9] 10 rfl rfl rfl (vf := []) (vc := []) rfl rfl Tryz.call189 (by decide) (by decide) rfl (fun w how hc => Wc f1 hf1 bs bf (some gb) cb rp cp id bm num fb1 _ w hc (by omega) bk sl (by have := hroom.hbk; omega) hroom.hsl (packP key (num + 1) vs) hplt hp24 (some ⟨rr, 0, none⟩) 24 (Jm how 0 [3, 5, 6, 7] rfl (by decide))) ?_)
    rintro _ _ ⟨rfl, rfl⟩
    refine Zc 5 rfl rfl ⟨[5, 6, 7, 8, 9], by decide, rfl⟩ (Zf (ZV rfl)) ?_
    refine ZS (.inr ⟨[5, 6, 7, 8, 9], by decide, rfl⟩) ?_
    refine Ze <| Zb <| Za <| gm rfl rfl <| gr rfl (ZX rfl rfl) (Zx (fun h97 => ?_) (fun h97 => ?_))
    · refine gA <| Zj rfl <| Zb <| Za <| gm rfl rfl <| gm rfl rfl <| Zl (Yl [_, _, _, _, _, _, _, _, _, _] T [0] [1, 2, 3, 4, 5, 6, 7, 8, 9] 10 rfl rfl rfl (vf := []) (vc := []) rfl rfl Tryz.call188 (by decide) (by decide) rfl (fun w how hc => Xk [] bs bf bm id num fb1 (ZW f1 (bk * 256 + sl * 24) (packP key (num + 1) vs)).2 _ w hc) ?_)
      rintro _ _ ⟨rfl, rfl⟩
      refine gas rfl rfl <| gA <| Zp <| Zg <| ZY (.inl rfl) Tryz.results182 rfl (ZL (A := [_, _, _, _, _]) (B := [_, _, _, _, _, _, _, _, _, _]) (T := T) [0, 7, 1, 2, 3] 10 (by decide) (by decide) rfl rfl) ?_
      exact .inr (.inr ⟨by omega, hnf, (ZW f1 (bk * 256 + sl * 24) (packP key (num + 1) vs)).2, (ZW f1 (bk * 256 + sl * 24) (packP key (num + 1) vs)).1, m1, nb1, fb1, num, WN (ZW f1 (bk * 256 + sl * 24) (packP key (num + 1) vs)).2 id, T, rfl, .inr ⟨hno, e1, f1, plain m1, fb1, hcl, .inr (.inr ⟨by omega, ⟨bk, sl, hroom, rfl, rfl, .inl ⟨h97, rfl, rfl, rfl⟩⟩, rfl⟩)⟩, hm1, (fun _ h => h), w1, by omega, by omega, rfl⟩)
    refine gA <| Zk rfl <| Zu <| Ze <| Zb <| Za <| gm rfl rfl <| gnc rfl rfl <| gr rfl (Zd rfl (Yr _)) <| gr rfl (Zh Tryz.underlying136 rfl rfl (by exact Zo 0 rfl rfl)) ?_
    refine gr rfl (Xz (b := 1) rfl rfl (by omega)) ?_
    refine gnc rfl rfl <| gr rfl (Zd rfl (Yr _)) <| Zl (Z7 0 W7 rfl rfl rfl rfl rfl (by rfl) (by rfl) ?_)
    refine gA <| Zb <| ZP [0, 1, 2, 3, 4, 5, 6, 8, 9] false 8 rfl <| Zc 0 rfl rfl ⟨[0, 1, 2, 3, 4, 5, 6, 8, 9], by decide, rfl⟩ (Zf (Zm rfl)) ?_
    refine Zc 1 rfl rfl ⟨[0, 1, 2, 3, 4, 5, 6, 8, 9], by decide, rfl⟩ (Zf (ZI rfl)) ?_
    refine Zc 2 rfl rfl ⟨[0, 1, 2, 3, 4, 5, 6, 8, 9], by decide, rfl⟩ (Zf (Zd rfl (Yj _))) ?_
    refine Zc 3 rfl rfl ⟨[0, 1, 2, 3, 4, 5, 6, 8, 9], by decide, rfl⟩ (Zf (Zh Tryz.underlying135 rfl rfl (by exact Zo 0 rfl rfl))) ?_
    refine Zc 4 rfl rfl ⟨[0, 1, 2, 3, 4, 5, 6, 8, 9], by decide, rfl⟩ (Zf (Zm rfl)) ?_
    refine Zc 5 rfl rfl ⟨[0, 1, 2, 3, 4, 5, 6, 8, 9], by decide, rfl⟩ (Zf (Zt Tryz.underlying184 rfl Z6 rfl (by exact ZH 6 (off := 0) (k := 3) rfl rfl) rfl)) ?_
    refine Zc 6 rfl rfl ⟨[0, 1, 2, 3, 4, 5, 6, 8, 9], by decide, rfl⟩ (Zf (Zt Tryz.underlying182 rfl Ya rfl (by exact ZH 7 (off := 0) (k := 2) rfl rfl) rfl)) ?_
    refine Zc 7 rfl rfl ⟨[0, 1, 2, 3, 4, 5, 6, 8, 9], by decide, rfl⟩ (Zf (ZJ rfl (fun _ => YO _ _ _ _ _ _ _))) ?_
    refine ZG 8 rfl (.inr ⟨[0, 1, 2, 3, 4, 5, 6, 8, 9], by decide, rfl⟩) (YM 7 HV (v := ⟨⟨key, num + 1, vs, bk, sl⟩, rv, cv⟩) Tryz.underlying135 Tryz.underlying3 rfl rfl rfl rfl rfl ?_)
    refine ZS (.inl (by kernel_rfl)) ?_
    refine Ze <| Zb <| Za <| gas rfl rfl <| gA <| Zp ?_
    have hw0 : (ZW f1 (bk * 256 + sl * 24) (packP key (num + 1) vs)).2 = 0 := Decidable.byContradiction h97
    have hen2 : EnOk ⟨key, num + 1, vs, bk, sl⟩ := ⟨hkey, hnum, hv16, hvs, (by have := hroom.hbk; simp only; omega), hroom.hsl⟩
    refine ZY (.inl rfl) Tryz.results182 rfl (ZL (A := [_, _, _, _, _, _]) (B := [_, _, _, _, _, _, _, _, _, _]) (T := T) [0, 7, 1, 2, 3, 5] 10 (by decide) (by decide) rfl rfl) ?_
    exact .inr (.inr ⟨by omega, hnf, 0, (ZW f1 (bk * 256 + sl * 24) (packP key (num + 1) vs)).1, XT ((key : Nat) : Int) ⟨⟨key, num + 1, vs, bk, sl⟩, rv, cv⟩ nb1 m1, mnb ((key : Nat) : Int) m1 nb1, fb1, num + 1, id, He.row ⟨⟨key, num + 1, vs, bk, sl⟩, rv, cv⟩ :: T, rfl, .inr ⟨hno, e1, f1, plain m1, fb1, hcl, .inr (.inr ⟨by omega, ⟨bk, sl, hroom, rfl, hw0.symm, .inr ⟨rfl, XP ⟨⟨key, num + 1, vs, bk, sl⟩, rv, cv⟩ nb1 hm1.key, rfl, rfl⟩⟩, rfl⟩)⟩, hm1.put ⟨⟨key, num + 1, vs, bk, sl⟩, rv, cv⟩ hen2 (fun y hy => List.mem_cons_of_mem _ hy) List.mem_cons_self, (fun y hy => List.mem_cons_of_mem _ hy), w1, by omega, by omega, rfl⟩)
  refine gm rfl rfl <| gr rfl (Zv rfl rfl) <| gr rfl (Zv rfl rfl) <| Zl (Zy 5 Ya rfl rfl rfl rfl rfl rfl (by rfl) ?_)
  refine gas rfl rfl <| gA <| Zb <| Za <| gm rfl rfl <| gr rfl (rd_not rfl) <| gA <| Zj rfl <| Zb <| Za <| gas rfl rfl <| gA <| Zp <| Zg <| ZY (.inl rfl) Tryz.results182 rfl (ZL (A := [_, _, _, _, _]) (B := [_, _, _, _, _, _, _]) (T := T) [0, 1, 2, 3, 4] 7 (by decide) (by decide) rfl rfl) ?_
  exact .inr (.inr ⟨by omega, hnf, 6, f1, m1, nb1, fb1, num, id, T, rfl, .inr ⟨hno, e1, f1, plain m1, fb1, hcl, .inr (.inl ⟨by omega, hno2, rfl, rfl, rfl, rfl, rfl, rfl⟩)⟩, hm1, (fun _ h => h), hf1, hl1, by omega, rfl⟩)
namespace Iv
def pcn : Nat → Nat → Nat
  | 0, _ => 0
  | n + 1, a => a % 2 + pcn n (a / 2)
theorem Zdo (a : Nat) : pc8 a = pcn 8 a := by
  simp only [pc8, pcn, Nat.div_div_eq_div_mul]; omega
theorem Zmw {a b : Nat} (h : a ||| b = b) : a % 2 ≤ b % 2 ∧ a / 2 ||| b / 2 = b / 2 := by
  constructor
  · have h1 : (a ||| b) % 2 = b % 2 := by rw [h]
    have h2 := Nat.or_mod_two_eq_one (a := a) (b := b)
    rcases Nat.mod_two_eq_zero_or_one a with ha | ha <;> omega
  · rw [← Nat.or_div_two, h]
theorem Ze2 : ∀ (n : Nat) {a b : Nat}, a ||| b = b → pcn n a ≤ pcn n b
  | 0, _, _, _ => Nat.le_refl _
  | n + 1, a, b, h => by
    obtain ⟨h1, h2⟩ := Zmw h
    have := Ze2 n h2
    simp only [pcn]; omega
theorem pcn_eq : ∀ (n : Nat) {a b : Nat}, a ||| b = b → a < 2 ^ n → b < 2 ^ n → pcn n a = pcn n b → a = b
  | 0, a, b, _, ha, hb, _ => by simp at ha hb; omega
  | n + 1, a, b, h, ha, hb, he => by
    obtain ⟨h1, h2⟩ := Zmw h
    have hm := Ze2 n h2
    simp only [pcn] at he
    have := pcn_eq n h2 (by rw [Nat.pow_succ] at ha; omega) (by rw [Nat.pow_succ] at hb; omega) (by omega)
    omega
theorem Zj2 {a b : Nat} (h : a ||| b = b) : pc8 a ≤ pc8 b := by rw [Zdo, Zdo]; exact Ze2 8 h
theorem pc8_eq {a b : Nat} (h : a ||| b = b) (ha : a < 256) (hb : b < 256) (he : pc8 a = pc8 b) : a = b := by
  rw [Zdo, Zdo] at he; exact pcn_eq 8 h ha hb he
def Cov : List Nat → List Nat → Prop
  | [], [] => True
  | y :: ys, z :: zs => y ||| z = z ∧ Cov ys zs
  | _, _ => False
theorem Cov.refl : ∀ ys : List Nat, Cov ys ys
  | [] => trivial
  | y :: ys => ⟨Nat.or_self y, Cov.refl ys⟩
theorem Cov.trans : ∀ {xs ys zs : List Nat}, Cov xs ys → Cov ys zs → Cov xs zs
  | [], [], [], _, _ => trivial
  | x :: xs, y :: ys, z :: zs, h1, h2 => ⟨by rw [← h2.1, ← Nat.or_assoc, h1.1], h1.2.trans h2.2⟩
  | [], _ :: _, _, h, _ => h.elim
  | _ :: _, [], _, h, _ => h.elim
  | _, [], _ :: _, _, h => h.elim
  | _, _ :: _, [], _, h => h.elim
theorem Cov.len : ∀ {ys zs : List Nat}, Cov ys zs → ys.length = zs.length
  | [], [], _ => rfl
  | y :: ys, z :: zs, h => by simp [h.2.len]
  | [], _ :: _, h => h.elim
  | _ :: _, [], h => h.elim
theorem Cov.take : ∀ {ys zs : List Nat} (k : Nat), Cov ys zs → Cov (ys.take k) (zs.take k)
  | [], [], _, _ => by simp [Cov]
  | y :: ys, z :: zs, 0, h => by simp [Cov]
  | y :: ys, z :: zs, k + 1, h => ⟨h.1, h.2.take k⟩
  | [], _ :: _, _, h => h.elim
  | _ :: _, [], _, h => h.elim
theorem Cov.at : ∀ {ys zs : List Nat} (k : Nat), Cov ys zs → gB ys k ||| gB zs k = gB zs k
  | [], [], k, _ => by simp [gB]
  | y :: ys, z :: zs, 0, h => h.1
  | y :: ys, z :: zs, k + 1, h => by have := h.2.at k; simpa [gB] using this
  | [], _ :: _, _, h => h.elim
  | _ :: _, [], _, h => h.elim
theorem Cov.of : ∀ {ys zs : List Nat}, ys.length = zs.length → (∀ k, k < ys.length → gB ys k ||| gB zs k = gB zs k) → Cov ys zs
  | [], [], _, _ => trivial
  | y :: ys, z :: zs, hl, h => ⟨by simpa [gB] using h 0 (by simp), Cov.of (by simpa using hl) fun k hk => by simpa [gB] using h (k + 1) (by simp; omega)⟩
  | [], _ :: _, h, _ => by simp at h
  | _ :: _, [], h, _ => by simp at h
theorem Cov.antisymm : ∀ {ys zs : List Nat}, Cov ys zs → Cov zs ys → ys = zs
  | [], [], _, _ => rfl
  | y :: ys, z :: zs, h1, h2 => by
    have e : y = z := by have a := h1.1; have b := h2.1; rw [Nat.or_comm] at b; omega
    rw [e, h1.2.antisymm h2.2]
  | [], _ :: _, h, _ => h.elim
  | _ :: _, [], h, _ => h.elim
theorem Cov.zeros : ∀ {ys zs : List Nat}, Cov ys zs → Yg zs ≤ Yg ys
  | [], [], _ => Nat.le_refl _
  | y :: ys, z :: zs, h => by
    have := h.2.zeros
    have := Zj2 h.1
    have := Zap z
    simp only [Yg]; omega
  | [], _ :: _, h => h.elim
  | _ :: _, [], h => h.elim
theorem Cov.eq_of_zeros : ∀ {ys zs : List Nat}, Cov ys zs → (∀ z ∈ ys, z < 256) → (∀ z ∈ zs, z < 256) → Yg zs = Yg ys → ys = zs
  | [], [], _, _, _, _ => rfl
  | y :: ys, z :: zs, h, hy, hz, e => by
    have h1 := h.2.zeros
    have h2 := Zj2 h.1
    have h3 := Zap z
    have h4 := Zap y
    simp only [Yg] at e
    rw [pc8_eq h.1 (hy y List.mem_cons_self) (hz z List.mem_cons_self) (by omega), h.2.eq_of_zeros (fun x hx => hy x (List.mem_cons_of_mem _ hx)) (fun x hx => hz x (List.mem_cons_of_mem _ hx)) (by omega)]
  | [], _ :: _, h, _, _, _ => h.elim
  | _ :: _, [], h, _, _, _ => h.elim
theorem or_le {a b : Nat} (h : a ||| b = b) : a ≤ b := by rw [← h]; exact Nat.left_le_or
theorem Ze3 {a b : List Nat} (hl : a.length = b.length) (h : ∀ k, k < a.length → gB a k = gB b k) : a = b := by
  apply List.ext_getElem hl
  intro i h1 h2
  have := h i h1
  simpa [gB, h1, h2] using this
theorem WX (b : List Nat) (o n k : Nat) (h : k < n) : gB ((b.drop o).take n) k = gB b (o + k) := by
  unfold gB
  rw [List.getD_eq_getElem?_getD, List.getD_eq_getElem?_getD, List.getElem?_take, if_pos h, List.getElem?_drop]
theorem WO (b : List Nat) (o v k : Nat) (h : o < b.length) : gB (b.set o v) k = if k = o then v else gB b k := by
  unfold gB
  rw [List.getD_eq_getElem?_getD, List.getD_eq_getElem?_getD, List.getElem?_set]
  by_cases e : o = k
  · subst e; rw [if_pos rfl, if_pos rfl, if_pos h]; rfl
  · rw [if_neg e, if_neg (by omega)]
theorem Zlt {b : List Nat} {k : Nat} (h : k < b.length) : gB b k ∈ b := by
  have : gB b k = b[k] := by simp [gB, h]
  rw [this]; exact List.getElem_mem h
theorem Zbw (b : List Nat) (bk sl : Nat) {k : Nat} (h : k < 24) : gB (slotB b bk sl) k = gB b (bk * 256 + sl * 24 + k) := WX b _ 24 k h
theorem Zgo : ∀ {zs : List Nat}, (∀ z ∈ zs, z < 256) → Yg zs = 0 → ∀ z ∈ zs, z = 255
  | [], _, _, z, hz => by cases hz
  | y :: ys, h, h0, z, hz => by
    simp only [Yg] at h0
    rcases List.mem_cons.1 hz with rfl | hz
    · have h1 : pc8 z = 8 := by have := Zap z; omega
      have h2 := h z List.mem_cons_self
      have h3 : z ||| 255 = 255 := by
        refine Nat.le_antisymm ?_ Nat.right_le_or
        have := Nat.or_lt_two_pow (n := 8) (show z < 2 ^ 8 by omega) (show 255 < 2 ^ 8 by decide)
        omega
      exact pc8_eq h3 h2 (by decide) (by rw [h1]; decide)
    · exact Zgo (fun x hx => h x (List.mem_cons_of_mem _ hx)) (by omega) z hz
theorem WZ {zs : List Nat} (h : ∀ z ∈ zs, z < 256) : Yg zs = 0 ↔ ∀ k, k < zs.length → gB zs k = 255 := by
  constructor
  · exact fun h0 k hk => Zgo h h0 _ (Zlt hk)
  · intro h1
    have : zs = List.replicate zs.length 255 := Ze3 (by simp) fun k hk => by rw [h1 k hk]; simp [gB, hk]
    rw [this]; exact Zgk _
structure EnV (key num : Nat) (vs : List Nat) : Prop where
  key : key ≤ 999
  num : num < 4294967296
  len : vs.length ≤ 16
  val : ∀ z ∈ vs, z < 256
theorem EnOk.v {x : En} (h : EnOk x) : EnV x.key x.num x.val := ⟨h.key, h.num, h.len, h.val⟩
def pkB (key num : Nat) (vs : List Nat) : List Nat := pk3 vs (pk2 num (pk1 key vs.length) 4)
theorem Zmx {key num : Nat} {vs : List Nat} (h : vs.length ≤ 16) : (pkB key num vs).length = 24 := Zdk (by rw [Vv, Jl]) h
theorem Ze4 (key num : Nat) (vs : List Nat) : packP key num vs = (pkB key num vs).set 23 (Yg ((pkB key num vs).take 23)) := rfl
theorem Zmy (num : Nat) {b : List Nat} (hb : b.length = 24) : ∀ n, n ≤ 4 → ∀ k, gB (pk2 num b n) k = if 3 ≤ k ∧ k < 3 + n then (num >>> (24 - 8 * (k - 3))) % 256 else gB b k
  | 0, _, k => by rw [if_neg (by omega)]; rfl
  | n + 1, h, k => by
    rw [JM, WO _ _ _ _ (by rw [Vv, hb]; omega), Zmy num hb n (by omega) k]
    by_cases e : k = 3 + n
    · subst e; rw [if_pos rfl, if_pos (by omega), show 3 + n - 3 = n by omega]
    · rw [if_neg e]
      by_cases e2 : 3 ≤ k ∧ k < 3 + n
      · rw [if_pos e2, if_pos (by omega)]
      · rw [if_neg e2, if_neg (by omega)]
theorem pk1_get (key len k : Nat) (hk : k < 24) : gB (pk1 key len) k = if k = 0 then key / 256 % 256 else if k = 1 then key % 256 else if k = 2 then len % 256 else 255 := by
  unfold pk1
  rw [WO _ _ _ _ (by simp), WO _ _ _ _ (by simp), WO _ _ _ _ (by simp), Nat.shiftRight_eq_div_pow]
  have e : gB (List.replicate 24 255) k = 255 := by unfold gB; rw [List.getD_eq_getElem?_getD, List.getElem?_replicate, if_pos hk]; rfl
  rw [e]
  by_cases h2 : k = 2
  · subst h2; rfl
  · rw [if_neg h2]
    by_cases h1 : k = 1
    · subst h1; rfl
    · rw [if_neg h1]
      by_cases h0 : k = 0
      · subst h0; rfl
      · rw [if_neg h0, if_neg h0, if_neg h1, if_neg h2]
theorem pk3_get {vs b : List Nat} (hb : b.length = 24) (hv : vs.length ≤ 16) (k : Nat) : gB (pk3 vs b) k = if k < 7 then gB b k else if k < 7 + vs.length then gB vs (k - 7) else gB b k := by
  unfold pk3 gB
  simp only [List.getD_eq_getElem?_getD, List.getElem?_append, List.length_append, List.length_take, hb, show min 7 24 = 7 from rfl]
  by_cases h7 : k < 7
  · rw [if_pos (by omega), if_pos h7, if_pos h7, List.getElem?_take, if_pos h7]
  · rw [if_neg h7]
    by_cases h8 : k < 7 + vs.length
    · rw [if_pos h8, if_neg h7, if_pos h8]
    · rw [if_neg h8, if_neg h7, if_neg h8, List.getElem?_drop, show 7 + vs.length + (k - (7 + vs.length)) = k by omega]
theorem Zbx {key num : Nat} {vs : List Nat} (hv : vs.length ≤ 16) {k : Nat} (hk : k < 24) : gB (pkB key num vs) k = if k < 7 then (if 3 ≤ k then (num >>> (24 - 8 * (k - 3))) % 256 else if k = 0 then key / 256 % 256 else if k = 1 then key % 256 else vs.length % 256) else if k < 7 + vs.length then gB vs (k - 7) else 255 := by
  unfold pkB
  rw [pk3_get (by rw [Vv, Jl]) hv, Zmy num (Jl _ _) 4 (Nat.le_refl _), pk1_get key vs.length k hk]
  by_cases h7 : k < 7
  · rw [if_pos h7, if_pos h7]
    by_cases h3 : 3 ≤ k
    · rw [if_pos (by omega), if_pos h3]
    · rw [if_neg (by omega), if_neg h3]
      by_cases h0 : k = 0
      · rw [if_pos h0, if_pos h0]
      · rw [if_neg h0, if_neg h0]
        by_cases h1 : k = 1
        · rw [if_pos h1, if_pos h1]
        · rw [if_neg h1, if_neg h1, if_pos (by omega)]
  · rw [if_neg h7, if_neg h7]
    by_cases h8 : k < 7 + vs.length
    · rw [if_pos h8, if_pos h8]
    · rw [if_neg h8, if_neg h8, if_neg (by omega), if_neg (by omega), if_neg (by omega), if_neg (by omega)]
theorem JQ {key num : Nat} {vs : List Nat} (hv : vs.length ≤ 16) {k : Nat} (hk : k < 23) : gB (packP key num vs) k = gB (pkB key num vs) k := by
  rw [Ze4, WO _ _ _ _ (by rw [Zmx hv]; decide), if_neg (by omega)]
theorem Zn0 {key num : Nat} {vs : List Nat} (hv : vs.length ≤ 16) : (packP key num vs).take 23 = (pkB key num vs).take 23 := by
  rw [Ze4, List.take_set_of_le (Nat.le_refl _)]
theorem Zmz {key num : Nat} {vs : List Nat} (hv : vs.length ≤ 16) : gB (packP key num vs) 23 = Yg ((packP key num vs).take 23) := by
  rw [Zn0 hv, Ze4, WO _ _ _ _ (by rw [Zmx hv]; decide), if_pos rfl]
theorem Ze5 {a b n : Nat} (hb : b < 2 ^ n) : a <<< n ||| b = a * 2 ^ n + b := by
  rw [← Nat.shiftLeft_add_eq_or_of_lt hb, Nat.shiftLeft_eq]
theorem Zj3 {key num : Nat} {vs : List Nat} (h : EnV key num vs) : keyP (packP key num vs) = key := by
  have := h.key
  unfold keyP
  rw [JQ h.len (by decide), JQ h.len (by decide), Zbx h.len (by decide), Zbx h.len (by decide)]
  simp
  rw [Ze5 (n := 8) (by omega)]
  omega
theorem Zh9 {key num : Nat} {vs : List Nat} (h : EnV key num vs) {j : Nat} (hj : j < 4) : gB (packP key num vs) (3 + j) = num >>> (24 - 8 * j) % 256 := by
  rw [JQ h.len (by omega), Zbx h.len (by omega), if_pos (by omega), if_pos (by omega), show 3 + j - 3 = j by omega]
theorem pack_num {key num : Nat} {vs : List Nat} (h : EnV key num vs) : numTo (packP key num vs) 4 = num := by
  have := h.num
  rw [Wl, Wl, Wl, Wl, Zh9 h (by decide), Zh9 h (by decide), Zh9 h (by decide), Zh9 h (by decide)]
  simp only [Nat.shiftRight_eq_div_pow]
  rw [Ze5 (n := 8) (by omega), Ze5 (n := 8) (by omega), Ze5 (n := 8) (by omega), Ze5 (n := 8) (by omega)]
  simp [numTo]
  omega
theorem pack_2 {key num : Nat} {vs : List Nat} (h : EnV key num vs) : gB (packP key num vs) 2 = vs.length := by
  have := h.len
  rw [JQ h.len (by decide), Zbx h.len (by decide)]
  simp; omega
theorem pack_val {key num : Nat} {vs : List Nat} (h : EnV key num vs) : YR (packP key num vs) = vs := by
  have hl := h.len
  have hp := Xe (key := key) (num := num) h.len
  unfold YR
  rw [pack_2 h]
  refine Ze3 (by simp [hp]; omega) fun k hk => ?_
  simp [hp] at hk
  rw [WX _ _ _ _ (by omega), JQ h.len (by omega), Zbx h.len (by omega), if_neg (by omega), if_pos (by omega), show 7 + k - 7 = k by omega]
theorem Zn1 {key num : Nat} {vs : List Nat} (h : EnV key num vs) : X1 (packP key num vs) = false := by
  have := h.key
  have := h.len
  unfold X1
  rw [Zj3 h, pack_2 h, Zmz h.len]
  simp; omega
theorem Zj4 {key num : Nat} {vs zs : List Nat} (h : EnV key num vs) (hc : Cov (packP key num vs) zs) (hz : ∀ z ∈ zs, z < 256) (hg : X1 zs = false) : zs = packP key num vs := by
  have hp := Xe (key := key) (num := num) h.len
  have hplt := XN (num := num) (show key < 65536 by have := h.key; omega) h.val h.len
  have hzl := hc.len
  have h23 : gB zs 23 = Yg (zs.take 23) := by
    unfold X1 at hg
    simp only [Bool.or_eq_false_iff, decide_eq_false_iff_not] at hg
    exact Decidable.byContradiction fun e => hg.1.1 e
  have c1 := or_le (hc.at 23)
  have c2 := (hc.take 23).zeros
  have p23 := Zmz (key := key) (num := num) h.len
  have e1 := (hc.take 23).eq_of_zeros (fun z hz' => hplt z (List.mem_of_mem_take hz')) (fun z hz' => hz z (List.mem_of_mem_take hz')) (by omega)
  refine Ze3 (by rw [hzl]) fun k hk => ?_
  by_cases e : k = 23
  · subst e; omega
  · have := congrArg (fun l => gB l k) e1
    have g1 := WX (packP key num vs) 0 23 k (by omega)
    have g2 := WX zs 0 23 k (by omega)
    simp only [List.drop_zero, Nat.zero_add] at g1 g2
    rw [← g1, ← g2, this]
theorem Zgp {zs : List Nat} (hl : zs.length = 24) (hz : ∀ z ∈ zs, z < 256) (h : Yg zs = 0) : X1 zs = true := by
  have h0 := (WZ hz).1 h 0 (by omega)
  have h1 := (WZ hz).1 h 1 (by omega)
  unfold X1 keyP
  rw [h0, h1]
  simp
theorem cov_255 {ys zs : List Nat} (hl : ys.length = zs.length) (hy : ∀ z ∈ ys, z < 256) (hz : ∀ z ∈ zs, z < 256) (h : Yg zs = 0) : Cov ys zs := by
  refine Cov.of hl fun k hk => ?_
  rw [(WZ hz).1 h k (by omega)]
  have := Xr hy k
  refine Nat.le_antisymm ?_ Nat.right_le_or
  have h2 : gB ys k ||| 255 < 2 ^ 8 := Nat.or_lt_two_pow (by omega) (by decide)
  omega
end Iv
namespace Iv
theorem begins_ok {f : Fl} (hd : f.down = false) {k m : Nat} (hk : k < m) : Yx f (k : Int) (m : Int) = 0 := by
  unfold Yx; rw [if_neg (by omega), if_neg (by omega), if_neg (by rw [hd]; decide)]
theorem prog_at {f : Fl} (hf : f.Ok) (hd : f.down = false) {k u : Nat} (hk : k < f.b.length) :
    (((Yp f (k : Int) u).2 = 0 ∧ (Yp f (k : Int) u).1.down = false ∧ gB (Yp f (k : Int) u).1.b k = gB f.b k &&& u) ∨
     ((Yp f (k : Int) u).2 = 9 ∧ (Yp f (k : Int) u).1.down = true ∧ ∃ p, gB (Yp f (k : Int) u).1.b k = gB f.b k &&& (u ||| p))) ∧
    (∀ j, j ≠ k → gB (Yp f (k : Int) u).1.b j = gB f.b j) := by
  unfold Yp
  rw [if_neg (by rw [begins_ok hd hk]; decide), Int.toNat_natCast]
  unfold XF
  cases hdn : (flFails { f with pr := f.pr + 1 }).down with
  | false =>
    simp only [Bool.not_false, if_true]
    refine ⟨.inl ⟨trivial, hdn, ?_⟩, fun j hj => ?_⟩
    · rw [WO _ _ _ _ hk, if_pos rfl]
    · rw [WO _ _ _ _ hk, if_neg hj]
  | true =>
    simp only [Bool.not_true, Bool.false_eq_true, if_false]
    refine ⟨.inr ⟨trivial, hdn, ?_⟩, fun j hj => ?_⟩
    · rw [WO _ _ _ _ hk, if_pos rfl]
      split
      · exact ⟨gB f.picks 0, rfl⟩
      · exact ⟨0, by rw [Nat.or_zero]⟩
    · rw [WO _ _ _ _ hk, if_neg hj]
theorem Zm0 {u : Nat} (h : u < 256) : 255 &&& u = u := by
  rw [Nat.and_comm, show 255 = 2 ^ 8 - 1 from rfl, Nat.and_two_pow_sub_one_eq_mod]; omega
theorem Zlu {u p : Nat} (h : u < 256) : u ||| 255 &&& (u ||| p) = 255 &&& (u ||| p) := by
  apply Nat.eq_of_testBit_eq
  intro i
  simp only [Nat.testBit_or, Nat.testBit_and]
  by_cases hi : u.testBit i = true
  · have : (255).testBit i = true := by
      have hlt : i < 8 := by
        apply Decidable.byContradiction
        intro hn
        rw [Nat.testBit_lt_two_pow (x := u) (i := i) (Nat.lt_of_lt_of_le (show u < 2 ^ 8 by omega) (Nat.pow_le_pow_right (by decide) (by omega)))] at hi
        cases hi
      rw [show 255 = 2 ^ 8 - 1 from rfl, Nat.testBit_two_pow_sub_one]
      simp [hlt]
    rw [hi, this]; rfl
  · simp only [Bool.not_eq_true] at hi
    rw [hi]; simp
theorem wr_at {f : Fl} (hf : f.Ok) (hd : f.down = false) {o : Nat} {bs : List Nat} (hb : ∀ z ∈ bs, z < 256) (hpr : f.pr + 24 < 4611686018427387904) (ho : o + 24 ≤ f.b.length) (he : ∀ i, i < 24 → gB f.b (o + i) = 255) : ∀ k, k ≤ 24 →
    (∀ j, (j < o ∨ o + 24 ≤ j) → gB (Xm f o bs k).1.b j = gB f.b j) ∧ (∀ i, i < 24 → gB bs i ||| gB (Xm f o bs k).1.b (o + i) = gB (Xm f o bs k).1.b (o + i)) ∧
    (((Xm f o bs k).2 = 0 ∧ (Xm f o bs k).1.down = false ∧ (∀ i, i < k → gB (Xm f o bs k).1.b (o + i) = gB bs i) ∧ (∀ i, k ≤ i → i < 24 → gB (Xm f o bs k).1.b (o + i) = 255)) ∨ ((Xm f o bs k).2 = 9 ∧ (Xm f o bs k).1.down = true))
  | 0, _ => ⟨fun _ _ => rfl, fun i hi => by
      rw [show (Xm f o bs 0).1 = f from rfl, he i hi]
      have h2 := Xr hb i
      refine Nat.le_antisymm ?_ Nat.right_le_or
      have := Nat.or_lt_two_pow (n := 8) (show gB bs i < 2 ^ 8 by omega) (show 255 < 2 ^ 8 by decide)
      omega, .inl ⟨rfl, hd, fun i h => absurd h (Nat.not_lt_zero _), fun i _ hi => he i hi⟩⟩
  | k + 1, hk => by
    obtain ⟨h1, h2, h3⟩ := wr_at hf hd hb hpr ho he k (by omega)
    obtain ⟨g1, g2, g3, g4, g5⟩ := VU hf (o := o) hb k (by omega)
    rw [Jo]
    obtain ⟨r, hr⟩ : ∃ r, Xm f o bs k = r := ⟨_, rfl⟩
    rw [hr] at h1 h2 h3 g1 g2 g3 g4 g5 ⊢
    unfold Jn
    rcases h3 with ⟨e0, e1, e2, e3⟩ | ⟨e0, e1⟩
    · rw [if_neg (by rw [e0]; decide)]
      split
      · rename_i h255
        refine ⟨h1, h2, .inl ⟨e0, e1, fun i hi => ?_, fun i hi hi2 => e3 i (by omega) hi2⟩⟩
        by_cases e : i = k
        · subst e; rw [e3 i (Nat.le_refl _) (by omega), h255]
        · exact e2 i (by omega)
      · obtain ⟨p1, p2⟩ := prog_at (f := r.1) g1 e1 (k := o + k) (u := gB bs k) (by omega)
        have hu := Xr hb k
        have h255 := e3 k (Nat.le_refl _) (by omega)
        refine ⟨fun j hj => ?_, fun i hi => ?_, ?_⟩
        · rw [p2 j (by omega)]; exact h1 j hj
        · by_cases e : i = k
          · subst e
            rcases p1 with ⟨_, _, q⟩ | ⟨_, _, p, q⟩
            · rw [q, h255, Zm0 hu, Nat.or_self]
            · rw [q, h255]; exact Zlu hu
          · rw [p2 (o + i) (by omega)]; exact h2 i hi
        · rcases p1 with ⟨q0, q1, q⟩ | ⟨q0, q1, _⟩
          · refine .inl ⟨q0, q1, fun i hi => ?_, fun i hi hi2 => ?_⟩
            · by_cases e : i = k
              · subst e; rw [q, h255, Zm0 hu]
              · rw [p2 (o + i) (by omega)]; exact e2 i (by omega)
            · rw [p2 (o + i) (by omega)]; exact e3 i (by omega) hi2
          · exact .inr ⟨q0, q1⟩
    · rw [if_pos (by rw [e0]; decide)]
      exact ⟨h1, h2, .inr ⟨e0, e1⟩⟩
structure Wrote (f : Fl) (o : Nat) (bs : List Nat) (g : Fl) (e : Int) : Prop where
  ok : g.Ok
  len : g.b.length = f.b.length
  st : g.st = f.st
  er : g.er = f.er
  pr : g.pr ≤ f.pr + 24
  out : ∀ j, (j < o ∨ o + 24 ≤ j) → gB g.b j = gB f.b j
  cov : Cov bs ((g.b.drop o).take 24)
  res : (e = 0 ∧ g.down = false ∧ (g.b.drop o).take 24 = bs) ∨ (e = 9 ∧ g.down = true)
  no : f.left = -1 → e = 0 ∧ g.left = -1
theorem wrote {f : Fl} (hf : f.Ok) (hd : f.down = false) {o : Nat} {bs : List Nat} (hl : bs.length = 24) (hb : ∀ z ∈ bs, z < 256) (hpr : f.pr + 24 < 4611686018427387904) (ho : o + 24 ≤ f.b.length) (he : Yg ((f.b.drop o).take 24) = 0) : Wrote f o bs (ZW f o bs).1 (ZW f o bs).2 := by
  have hpl : ((f.b.drop o).take 24).length = 24 := by simp; omega
  have he2 := (WZ (fun z hz => hf.bs z (List.mem_of_mem_drop (List.mem_of_mem_take hz)))).1 he
  have he3 : ∀ i, i < 24 → gB f.b (o + i) = 255 := fun i hi => by rw [← WX f.b o 24 i hi]; exact he2 i (by omega)
  obtain ⟨h1, h2, h3⟩ := wr_at hf hd hb hpr ho he3 24 (Nat.le_refl _)
  obtain ⟨g1, g2, g3, g4, g5⟩ := VU hf (o := o) hb 24 (by omega)
  have ge := wr_er f o bs 24
  have hwe : ZW f o bs = Xm f o bs 24 := by unfold ZW; rw [hl]
  rw [hwe]
  have gn := fun h => wr_no (f := f) h hd (o := o) (bs := bs) 24 ho
  obtain ⟨r, hr⟩ : ∃ r, Xm f o bs 24 = r := ⟨_, rfl⟩
  rw [hr] at h1 h2 h3 g1 g2 g3 g4 g5 ge gn ⊢
  have hql : ((r.1.b.drop o).take 24).length = 24 := by simp; omega
  refine ⟨g1, g3, g5, ge, g2, h1, Cov.of (by omega) fun k hk => ?_, ?_, fun h => ?_⟩
  · rw [WX _ _ _ _ (by omega)]; exact h2 k (by omega)
  · rcases h3 with ⟨e0, e1, e2, _⟩ | h
    · exact .inl ⟨e0, e1, Ze3 (by omega) fun k hk => by rw [WX _ _ _ _ (by omega)]; exact e2 k (by omega)⟩
    · exact .inr h
  · exact ⟨(gn h).1, (gn h).2.1⟩
structure Erased (f : Fl) (k : Nat) (g : Fl) (e : Int) : Prop where
  ok : g.Ok
  len : g.b.length = f.b.length
  st : g.st = f.st
  er : g.er ≤ f.er + 1
  pr : g.pr = f.pr
  out : ∀ j, (j < k * 256 ∨ k * 256 + 256 ≤ j) → gB g.b j = gB f.b j
  cov : ∀ i, i < 256 → gB f.b (k * 256 + i) ||| gB g.b (k * 256 + i) = gB g.b (k * 256 + i)
  res : (e = 0 ∧ g.down = false ∧ ∀ i, i < 256 → gB g.b (k * 256 + i) = 255) ∨ (e = 9 ∧ g.down = true)
  no : f.left = -1 → e = 0 ∧ g.left = -1
theorem or_255 {a : Nat} (h : a < 256) : a ||| 255 = 255 := by
  refine Nat.le_antisymm ?_ Nat.right_le_or
  have := Nat.or_lt_two_pow (n := 8) (show a < 2 ^ 8 by omega) (show 255 < 2 ^ 8 by decide)
  omega
theorem Zj5 (p b : List Nat) (o : Nat) : ∀ n, o + n ≤ b.length → (∀ j, (j < o ∨ o + n ≤ j) → gB (orTo p b o n) j = gB b j) ∧ (∀ i, i < n → gB b (o + i) ||| gB (orTo p b o n) (o + i) = gB (orTo p b o n) (o + i))
  | 0, _ => ⟨fun _ _ => rfl, fun i h => absurd h (Nat.not_lt_zero _)⟩
  | n + 1, h => by
    obtain ⟨h1, h2⟩ := Zj5 p b o n (by omega)
    rw [J3]
    refine ⟨fun j hj => ?_, fun i hi => ?_⟩
    · rw [WO _ _ _ _ (by rw [VS]; omega), if_neg (by omega)]; exact h1 j (by omega)
    · rw [WO _ _ _ _ (by rw [VS]; omega)]
      by_cases e : i = n
      · subst e; rw [if_pos rfl, h1 (o + i) (by omega), ← Nat.or_assoc, Nat.or_self]
      · rw [if_neg (by omega)]; exact h2 i (by omega)
theorem fill_get (b : List Nat) (o m : Nat) (h : o + m ≤ b.length) (j : Nat) : gB (b.take o ++ List.replicate m 255 ++ b.drop (o + m)) j = if o ≤ j ∧ j < o + m then 255 else gB b j := by
  unfold gB
  have e1 : (b.take o).length = o := by simp; omega
  have e2 : (b.take o ++ List.replicate m 255).length = o + m := by simp; omega
  rw [List.getD_eq_getElem?_getD, List.getD_eq_getElem?_getD]
  by_cases h1 : j < o
  · rw [List.getElem?_append_left (by omega), List.getElem?_append_left (by omega), if_neg (by omega), List.getElem?_take, if_pos h1]
  · by_cases h2 : j < o + m
    · rw [List.getElem?_append_left (by omega), List.getElem?_append_right (by omega), if_pos (by omega), List.getElem?_replicate, if_pos (by omega)]; rfl
    · rw [List.getElem?_append_right (by omega), if_neg (by omega), List.getElem?_drop, e2, show o + m + (j - (o + m)) = j by omega]
theorem erased {f : Fl} (hf : f.Ok) (hd : f.down = false) {k : Nat} (hk : k < f.b.length / 256) (her : f.er + 1 < 4611686018427387904) : Erased f k (Yh f (k : Int)).1 (Yh f (k : Int)).2 := by
  obtain ⟨e1, e2, e3, e4, e5⟩ := Zck hf her (k : Int)
  have hin : k * 256 + 256 ≤ f.b.length := by omega
  have hne : Yx f (k : Int) (f.b.length / 256 : Nat) = 0 := begins_ok hd hk
  have hrw : Yh f (k : Int) = YX f k := by
    unfold Yh
    rw [if_neg (by rw [hne]; decide), Int.toNat_natCast]
  rw [hrw] at e1 e2 e3 e4 e5 ⊢
  have hfill : ∀ j, gB (f.b.take (k * 256) ++ List.replicate 256 255 ++ f.b.drop (k * 256 + 256)) j = if k * 256 ≤ j ∧ j < k * 256 + 256 then 255 else gB f.b j := fill_get f.b (k * 256) 256 hin
  have hor := Zj5 f.picks f.b (k * 256) 256 (by omega)
  refine ⟨e1, e3, e4, e2, e5, ?_, ?_, ?_, fun h => ?_⟩
  · intro j hj
    unfold YX
    simp only
    split
    · rw [hfill, if_neg (by omega)]
    · exact hor.1 j hj
  · intro i hi
    unfold YX
    simp only
    split
    · rw [hfill, if_pos (by omega)]; exact or_255 (Xr hf.bs _)
    · exact hor.2 i hi
  · unfold YX
    cases hdn : (flFails { f with er := f.er + 1 }).down with
    | false =>
      refine .inl ⟨rfl, rfl, fun i hi => ?_⟩
      simp only [Bool.not_false, Bool.true_or, if_true]
      rw [hfill, if_pos (by omega)]
    | true => exact .inr ⟨rfl, rfl⟩
  · obtain ⟨n1, n2⟩ := Zex (f := { f with er := f.er + 1 }) h
    unfold YX
    rw [n2]
    exact ⟨rfl, n1⟩
end Iv
namespace Iv
abbrev Yb := Nat → Option (Nat × List Nat)
structure Gd (b : List Nat) (y : En) : Prop where
  bk : y.bk < b.length / 256
  sl : y.sl < 10
  good : X1 (slotB b y.bk y.sl) = false
  eq : enB b y.bk y.sl = y
structure FI (b : List Nat) (N : Nat) (V : Yb) : Prop where
  lt : ∀ z ∈ b, z < 256
  lm : b.length % 256 = 0
  nb : b.length / 256 ≤ 64
  slo : ∀ bk sl, bk < b.length / 256 → sl < 10 → ∃ key num vs, EnV key num vs ∧ Cov (packP key num vs) (slotB b bk sl)
  num : ∀ y, Gd b y → y.num ≤ N
  uq : ∀ y z, Gd b y → Gd b z → y.key = z.key → y.num = z.num → y.val = z.val
  topN : ∀ k, V k = none → ∀ y, Gd b y → y.key ≠ k
  topS : ∀ k m v, V k = some (m, v) → (∃ y, Gd b y ∧ y.key = k ∧ y.num = m ∧ y.val = v) ∧ ∀ y, Gd b y → y.key = k → y.num ≤ m
def Vc (b : List Nat) (e : Nat) : Prop := ∀ y, Gd b y → y.bk = e → ∃ z, Gd b z ∧ z.bk ≠ e ∧ z.key = y.key ∧ y.num ≤ z.num
theorem FI.mono {b : List Nat} {N N' : Nat} {V : Yb} (h : FI b N V) (hN : N ≤ N') : FI b N' V := ⟨h.lt, h.lm, h.nb, h.slo, fun y hy => Nat.le_trans (h.num y hy) hN, h.uq, h.topN, h.topS⟩
theorem Gd.ok {b : List Nat} {y : En} (h : Gd b y) (hlt : ∀ z ∈ b, z < 256) (hnb : b.length / 256 ≤ 64) : EnOk y := by
  have h1 := h.bk
  have h2 := h.sl
  have := Zln hlt (bk := y.bk) (sl := y.sl) (by omega) (by omega) h2 h.good
  rw [h.eq] at this; exact this
theorem Zia {b b' : List Nat} {bk sl : Nat} (hl : b'.length = b.length) (h : ∀ i, i < 24 → gB b' (bk * 256 + sl * 24 + i) = gB b (bk * 256 + sl * 24 + i)) : slotB b' bk sl = slotB b bk sl := by
  have hlen : (slotB b' bk sl).length = (slotB b bk sl).length := by simp [slotB, hl]
  refine Ze3 hlen fun k hk => ?_
  have hk24 : k < 24 := by simp [slotB] at hk; omega
  rw [Zbw _ _ _ hk24, Zbw _ _ _ hk24]
  exact h k hk24
theorem Zby {b b' : List Nat} {y : En} (hl : b'.length = b.length) (hs : slotB b' y.bk y.sl = slotB b y.bk y.sl) : Gd b' y ↔ Gd b y := by
  have he : enB b' y.bk y.sl = enB b y.bk y.sl := by unfold enB; rw [hs]
  constructor
  · exact fun h => ⟨by rw [← hl]; exact h.bk, h.sl, by rw [← hs]; exact h.good, by rw [← he]; exact h.eq⟩
  · exact fun h => ⟨by rw [hl]; exact h.bk, h.sl, by rw [hs]; exact h.good, by rw [he]; exact h.eq⟩
theorem gd_uniq {b : List Nat} {y z : En} (hy : Gd b y) (hz : Gd b z) (h1 : y.bk = z.bk) (h2 : y.sl = z.sl) : y = z := by
  rw [← hy.eq, ← hz.eq, h1, h2]
theorem FI.erase {b b' : List Nat} {N : Nat} {V : Yb} (h : FI b N V) {e : Nat} (hs : Vc b e) (he : e < b.length / 256) (hl : b'.length = b.length) (hlt : ∀ z ∈ b', z < 256) (hout : ∀ j, (j < e * 256 ∨ e * 256 + 256 ≤ j) → gB b' j = gB b j) (hcov : ∀ i, i < 256 → gB b (e * 256 + i) ||| gB b' (e * 256 + i) = gB b' (e * 256 + i)) :
    FI b' N V ∧ Vc b' e ∧ (∀ y, Gd b' y → Gd b y) ∧ (∀ y, Gd b y → y.bk ≠ e → Gd b' y) := by
  have hlm := h.lm
  have hsame : ∀ bk sl, sl < 10 → bk ≠ e → slotB b' bk sl = slotB b bk sl := fun bk sl h2 h3 => Zia hl fun i hi => hout _ (by omega)
  have hsl : ∀ sl, sl < 10 → Cov (slotB b e sl) (slotB b' e sl) := fun sl h2 => by
    have e1 := WD (b := b) (bk := e) (sl := sl) (by omega)
    have e2 := WD (b := b') (bk := e) (sl := sl) (by omega)
    refine Cov.of (by omega) fun k hk => ?_
    rw [Zbw _ _ _ (by omega), Zbw _ _ _ (by omega), show e * 256 + sl * 24 + k = e * 256 + (sl * 24 + k) by omega]
    exact hcov _ (by omega)
  have hback : ∀ y, Gd b' y → Gd b y := fun y hy => by
    by_cases hy2 : y.bk = e
    · obtain ⟨key, num, vs, hv, hc⟩ := h.slo y.bk y.sl (by rw [← hl]; exact hy.bk) hy.sl
      have h1 := hsl y.sl hy.sl
      rw [← hy2] at h1
      have h2 := Zj4 hv (hc.trans h1) (Wz hlt _ _) hy.good
      refine (Zby hl ?_).1 hy
      rw [h2] at h1 ⊢
      exact (h1.antisymm hc).symm
    · exact (Zby hl (hsame _ _ hy.sl hy2)).1 hy
  have hfor : ∀ y, Gd b y → y.bk ≠ e → Gd b' y := fun y hy h2 => (Zby hl (hsame _ _ hy.sl h2)).2 hy
  refine ⟨⟨hlt, by rw [hl]; exact hlm, by rw [hl]; exact h.nb, fun bk sl h1 h2 => ?_, fun y hy => h.num y (hback y hy), fun y z hy hz => h.uq y z (hback y hy) (hback z hz), fun k hk y hy => h.topN k hk y (hback y hy), fun k m v hk => ?_⟩, fun y hy h2 => ?_, hback, hfor⟩
  · obtain ⟨key, num, vs, hv, hc⟩ := h.slo bk sl (by rw [← hl]; exact h1) h2
    refine ⟨key, num, vs, hv, ?_⟩
    by_cases e2 : bk = e
    · subst e2; exact hc.trans (hsl sl h2)
    · rw [hsame bk sl h2 e2]; exact hc
  · obtain ⟨⟨y, hy, hy1, hy2, hy3⟩, hmax⟩ := h.topS k m v hk
    refine ⟨?_, fun y hy => hmax y (hback y hy)⟩
    by_cases e2 : y.bk = e
    · obtain ⟨z, hz, hz1, hz2, hz3⟩ := hs y hy e2
      have hz4 := hmax z hz (by omega)
      refine ⟨z, hfor z hz hz1, by omega, by omega, ?_⟩
      rw [← hy3]
      exact h.uq z y hz hy hz2 (by omega)
    · exact ⟨y, hfor y hy e2, hy1, hy2, hy3⟩
  · obtain ⟨z, hz, hz1, hz2, hz3⟩ := hs y (hback y hy) h2
    exact ⟨z, hfor z hz hz1, hz1, hz2, hz3⟩
structure Wr (b b' : List Nat) (bk sl key num : Nat) (vs : List Nat) : Prop where
  hbk : bk < b.length / 256
  hsl : sl < 10
  em : Yg (slotB b bk sl) = 0
  v : EnV key num vs
  len : b'.length = b.length
  lt : ∀ z ∈ b', z < 256
  out : ∀ j, (j < bk * 256 + sl * 24 ∨ bk * 256 + sl * 24 + 24 ≤ j) → gB b' j = gB b j
  cov : Cov (packP key num vs) (slotB b' bk sl)
theorem Wr.other {b b' : List Nat} {bk sl key num : Nat} {vs : List Nat} (h : Wr b b' bk sl key num vs) {bk2 sl2 : Nat} (h2 : sl2 < 10) (hne : ¬ (bk2 = bk ∧ sl2 = sl)) : slotB b' bk2 sl2 = slotB b bk2 sl2 := by
  have := h.hsl
  refine Zia h.len fun i hi => h.out _ ?_
  rcases Nat.lt_trichotomy bk2 bk with h3 | h3 | h3
  · omega
  · rcases Nat.lt_trichotomy sl2 sl with h4 | h4 | h4
    · omega
    · exact absurd ⟨h3, h4⟩ hne
    · omega
  · omega
theorem Wr.gd {b b' : List Nat} {N : Nat} {V : Yb} {bk sl key num : Nat} {vs : List Nat} (hf : FI b N V) (h : Wr b b' bk sl key num vs) : (∀ y, Gd b y → Gd b' y ∧ ¬ (y.bk = bk ∧ y.sl = sl)) ∧ (∀ y, Gd b' y → Gd b y ∨ (y = ⟨key, num, vs, bk, sl⟩ ∧ slotB b' bk sl = packP key num vs)) ∧ (slotB b' bk sl = packP key num vs → Gd b' ⟨key, num, vs, bk, sl⟩) := by
  have hlm := hf.lm
  have hbk := h.hbk
  have hsl := h.hsl
  have hlen := WD (b := b) (bk := bk) (sl := sl) (by omega)
  have hbad := Zgp hlen (Wz hf.lt _ _) h.em
  have heq : slotB b' bk sl = packP key num vs → enB b' bk sl = ⟨key, num, vs, bk, sl⟩ := fun e => by
    unfold enB; rw [e, Zj3 h.v, pack_num h.v, pack_val h.v]
  refine ⟨fun y hy => ?_, fun y hy => ?_, fun e => ⟨by rw [h.len]; exact h.hbk, h.hsl, by simp only; rw [e]; exact Zn1 h.v, heq e⟩⟩
  · have hne : ¬ (y.bk = bk ∧ y.sl = sl) := fun ⟨e1, e2⟩ => by
      have := hy.good
      rw [e1, e2, hbad] at this; cases this
    exact ⟨(Zby h.len (h.other hy.sl hne)).2 hy, hne⟩
  · by_cases hne : y.bk = bk ∧ y.sl = sl
    · obtain ⟨e1, e2⟩ := hne
      have hg := hy.good
      rw [e1, e2] at hg
      have := Zj4 h.v h.cov (Wz h.lt _ _) hg
      refine .inr ⟨?_, this⟩
      have he := hy.eq
      rw [e1, e2, heq this] at he
      exact he.symm
    · exact .inl ((Zby h.len (h.other hy.sl hne)).1 hy)
theorem Wr.slo {b b' : List Nat} {N : Nat} {V : Yb} {bk sl key num : Nat} {vs : List Nat} (hf : FI b N V) (h : Wr b b' bk sl key num vs) : ∀ bk sl, bk < b'.length / 256 → sl < 10 → ∃ key num vs, EnV key num vs ∧ Cov (packP key num vs) (slotB b' bk sl) := fun bk2 sl2 h1 h2 => by
  by_cases e : bk2 = bk ∧ sl2 = sl
  · obtain ⟨rfl, rfl⟩ := e
    exact ⟨key, num, vs, h.v, h.cov⟩
  · rw [h.other h2 e]
    exact hf.slo bk2 sl2 (by rw [← h.len]; exact h1) h2
theorem Wr.copy {b b' : List Nat} {N : Nat} {V : Yb} {bk sl key num : Nat} {vs : List Nat} (hf : FI b N V) (h : Wr b b' bk sl key num vs) (hV : V key = some (num, vs)) : FI b' N V := by
  obtain ⟨g1, g2, g3⟩ := h.gd hf
  obtain ⟨⟨y0, a1, a2, a3, a4⟩, a5⟩ := hf.topS key num vs hV
  have hy : ∀ y, Gd b' y → ∃ x, Gd b x ∧ x.key = y.key ∧ x.num = y.num ∧ x.val = y.val := fun y hy => by
    rcases g2 y hy with h1 | ⟨rfl, _⟩
    · exact ⟨y, h1, rfl, rfl, rfl⟩
    · exact ⟨y0, a1, a2, a3, a4⟩
  refine ⟨h.lt, by rw [h.len]; exact hf.lm, by rw [h.len]; exact hf.nb, h.slo hf, fun y h1 => ?_, fun y z h1 h2 e1 e2 => ?_, fun k hk y h1 e1 => ?_, fun k m v hk => ?_⟩
  · obtain ⟨x, x1, x2, x3, x4⟩ := hy y h1
    rw [← x3]; exact hf.num x x1
  · obtain ⟨x, x1, x2, x3, x4⟩ := hy y h1
    obtain ⟨u, u1, u2, u3, u4⟩ := hy z h2
    rw [← x4, ← u4]
    exact hf.uq x u x1 u1 (by omega) (by omega)
  · obtain ⟨x, x1, x2, x3, x4⟩ := hy y h1
    exact hf.topN k hk x x1 (by omega)
  · obtain ⟨⟨y, b1, b2, b3, b4⟩, b5⟩ := hf.topS k m v hk
    refine ⟨⟨y, (g1 y b1).1, b2, b3, b4⟩, fun z h1 e1 => ?_⟩
    obtain ⟨x, x1, x2, x3, x4⟩ := hy z h1
    rw [← x3]; exact b5 x x1 (by omega)
abbrev Zat (V : Yb) (key num : Nat) (vs : List Nat) : Yb := fun k => if k = key then some (num, vs) else V k
theorem Wr.new {b b' : List Nat} {N : Nat} {V : Yb} {bk sl key : Nat} {vs : List Nat} (hf : FI b N V) (h : Wr b b' bk sl key (N + 1) vs) (he : slotB b' bk sl = packP key (N + 1) vs) : FI b' (N + 1) (Zat V key (N + 1) vs) := by
  obtain ⟨g1, g2, g3⟩ := h.gd hf
  refine ⟨h.lt, by rw [h.len]; exact hf.lm, by rw [h.len]; exact hf.nb, h.slo hf, fun y h1 => ?_, fun y z h1 h2 e1 e2 => ?_, fun k hk y h1 e1 => ?_, fun k m v hk => ?_⟩
  · rcases g2 y h1 with h1 | ⟨rfl, _⟩
    · have := hf.num y h1; omega
    · exact Nat.le_refl _
  · rcases g2 y h1 with h1 | ⟨rfl, _⟩ <;> rcases g2 z h2 with h2 | ⟨rfl, _⟩
    · exact hf.uq y z h1 h2 e1 e2
    · have := hf.num y h1; simp only at e2; omega
    · have := hf.num z h2; simp only at e2; omega
    · rfl
  · simp only [Zat] at hk
    split at hk
    · cases hk
    · rename_i hne
      rcases g2 y h1 with h1 | ⟨rfl, _⟩
      · exact hf.topN k hk y h1 e1
      · exact hne e1.symm
  · simp only [Zat] at hk
    split at hk
    · rename_i e
      cases hk
      refine ⟨⟨_, g3 he, e.symm, rfl, rfl⟩, fun y h1 _ => ?_⟩
      rcases g2 y h1 with h1 | ⟨rfl, _⟩
      · have := hf.num y h1; omega
      · exact Nat.le_refl _
    · rename_i hne
      obtain ⟨⟨y, b1, b2, b3, b4⟩, b5⟩ := hf.topS k m v hk
      refine ⟨⟨y, (g1 y b1).1, b2, b3, b4⟩, fun z h1 e1 => ?_⟩
      rcases g2 z h1 with h1 | ⟨rfl, _⟩
      · exact b5 z h1 e1
      · exact absurd e1.symm hne
theorem Wr.torn {b b' : List Nat} {N : Nat} {V : Yb} {bk sl key num : Nat} {vs : List Nat} (hf : FI b N V) (h : Wr b b' bk sl key num vs) (he : slotB b' bk sl ≠ packP key num vs) : FI b' N V := by
  obtain ⟨g1, g2, g3⟩ := h.gd hf
  have hy : ∀ y, Gd b' y → Gd b y := fun y hy => by
    rcases g2 y hy with h1 | ⟨rfl, h2⟩
    · exact h1
    · exact absurd h2 he
  refine ⟨h.lt, by rw [h.len]; exact hf.lm, by rw [h.len]; exact hf.nb, h.slo hf, fun y h1 => hf.num y (hy y h1), fun y z h1 h2 => hf.uq y z (hy y h1) (hy z h2), fun k hk y h1 => hf.topN k hk y (hy y h1), fun k m v hk => ?_⟩
  obtain ⟨⟨y, b1, b2, b3, b4⟩, b5⟩ := hf.topS k m v hk
  exact ⟨⟨y, (g1 y b1).1, b2, b3, b4⟩, fun z h1 => b5 z (hy z h1)⟩
theorem Wp (k : Nat) (x : En) : ∀ P : List En, Yv k (Jp x P) = if k = x.key then some x else Yv k P
  | [] => by simp only [Jp, Yv]
  | y :: l => by
    unfold Jp
    by_cases e : x.key = y.key
    · rw [if_pos e]
      simp only [Yv]
      by_cases e2 : k = x.key
      · rw [if_pos e2, if_pos e2]
      · rw [if_neg e2, if_neg e2, if_neg (by omega)]
    · rw [if_neg e]
      simp only [Yv]
      rw [Wp k x l]
      by_cases e2 : k = y.key
      · rw [if_pos e2, if_neg (by omega), if_pos e2]
      · rw [if_neg e2, if_neg e2]
theorem VE {x : En} : ∀ {P : List En}, Yv x.key P = none → (Jp x P).map En.key = P.map En.key ++ [x.key]
  | [], _ => rfl
  | y :: l, h => by
    unfold Yv at h
    unfold Jp
    by_cases e : x.key = y.key
    · rw [if_pos e] at h; cases h
    · rw [if_neg e] at h ⊢
      simp [VE h]
theorem Zgq {k : Nat} : ∀ {P : List En}, Yv k P = none → k ∉ P.map En.key := fun h hm => by
  have := Zbv hm
  rw [h] at this; cases this
theorem Ze6 {x : En} {P : List En} (h : (P.map En.key).Nodup) : ((Jp x P).map En.key).Nodup := by
  cases e : Yv x.key P with
  | some y => rw [VX (by rw [e]; rfl)]; exact h
  | none =>
    rw [VE e, List.nodup_append]
    refine ⟨h, by simp, fun a ha c hc e2 => ?_⟩
    simp at hc
    subst hc; subst e2
    exact Zgq e ha
structure ScOk (b : List Nat) (but : Int) (seen : Nat → Nat → Prop) (n0 : Nat) (s : Nat × List En) : Prop where
  nd : (s.2.map En.key).Nodup
  so : ∀ k x, Yv k s.2 = some x → Gd b x ∧ seen x.bk x.sl ∧ (x.bk : Int) ≠ but ∧ x.key = k ∧ ∀ y, Gd b y → seen y.bk y.sl → (y.bk : Int) ≠ but → y.key = k → y.num ≤ x.num
  no : ∀ k, Yv k s.2 = none → ∀ y, Gd b y → seen y.bk y.sl → (y.bk : Int) ≠ but → y.key ≠ k
  n0 : n0 ≤ s.1
  nu : ∀ y, Gd b y → seen y.bk y.sl → (y.bk : Int) ≠ but → y.num ≤ s.1
theorem ScOk.congr {b : List Nat} {but : Int} {seen seen' : Nat → Nat → Prop} {n0 : Nat} {s : Nat × List En} (h : ScOk b but seen n0 s) (he : ∀ bk sl, sl < 10 → (seen bk sl ↔ seen' bk sl)) : ScOk b but seen' n0 s := by
  refine ⟨h.nd, fun k x hx => ?_, fun k hk y hy h1 => h.no k hk y hy ((he _ _ hy.sl).2 h1), h.n0, fun y hy h1 => h.nu y hy ((he _ _ hy.sl).2 h1)⟩
  obtain ⟨a1, a2, a3, a4, a5⟩ := h.so k x hx
  exact ⟨a1, (he _ _ a1.sl).1 a2, a3, a4, fun y hy h1 => a5 y hy ((he _ _ hy.sl).2 h1)⟩
theorem ScOk.step {b : List Nat} {but : Int} {seen : Nat → Nat → Prop} {n0 : Nat} {s : Nat × List En} (h : ScOk b but seen n0 s) {bk sl : Nat} (hbk : bk < b.length / 256) (hsl : sl < 10) : ScOk b but (fun p q => seen p q ∨ (p = bk ∧ q = sl)) n0 (WM b but bk s sl) := by
  by_cases hc : X1 (slotB b bk sl) = true ∨ (bk : Int) = but
  · rw [Vw hc]
    have hno : ∀ y, Gd b y → (y.bk : Int) ≠ but → ¬ (y.bk = bk ∧ y.sl = sl) := fun y hy h1 ⟨e1, e2⟩ => by
      rcases hc with hc | hc
      · have := hy.good
        rw [e1, e2, hc] at this; cases this
      · rw [e1] at h1; exact h1 hc
    refine ⟨h.nd, fun k x hx => ?_, fun k hk y hy h1 h2 => ?_, h.n0, fun y hy h1 h2 => ?_⟩
    · obtain ⟨a1, a2, a3, a4, a5⟩ := h.so k x hx
      refine ⟨a1, .inl a2, a3, a4, fun y hy h1 h2 => ?_⟩
      rcases h1 with h1 | h1
      · exact a5 y hy h1 h2
      · exact absurd h1 (hno y hy h2)
    · rcases h1 with h1 | h1
      · exact h.no k hk y hy h1 h2
      · exact absurd h1 (hno y hy h2)
    · rcases h1 with h1 | h1
      · exact h.nu y hy h1 h2
      · exact absurd h1 (hno y hy h2)
  · have hb : X1 (slotB b bk sl) = false := by
      cases e : X1 (slotB b bk sl) with
      | false => rfl
      | true => exact absurd (.inl e) hc
    have hne : (bk : Int) ≠ but := fun e => hc (.inr e)
    rw [Wm hb hne]
    obtain ⟨x0, hx0⟩ : ∃ x, enB b bk sl = x := ⟨_, rfl⟩
    have hxb : x0.bk = bk := by rw [← hx0]; rfl
    have hxs : x0.sl = sl := by rw [← hx0]; rfl
    have hg : Gd b x0 := ⟨by rw [hxb]; exact hbk, by rw [hxs]; exact hsl, by rw [hxb, hxs]; exact hb, by rw [hxb, hxs]; exact hx0⟩
    rw [hx0]
    have hyx : ∀ y, Gd b y → (y.bk = bk ∧ y.sl = sl) → y = x0 := fun y hy ⟨e1, e2⟩ => gd_uniq hy hg (by omega) (by omega)
    cases hnw : Y9 x0 s.2 with
    | true =>
      simp only [if_true]
      have hold : ∀ y, Gd b y → seen y.bk y.sl → (y.bk : Int) ≠ but → y.key = x0.key → y.num ≤ x0.num := fun y hy h1 h2 h3 => by
        unfold Y9 at hnw
        cases hg2 : Yv x0.key s.2 with
        | none => exact absurd h3 (h.no _ hg2 y hy h1 h2)
        | some o =>
          rw [hg2] at hnw
          obtain ⟨a1, a2, a3, a4, a5⟩ := h.so _ o hg2
          have := a5 y hy h1 h2 h3
          have := of_decide_eq_true hnw
          omega
      refine ⟨Ze6 h.nd, fun k x hx => ?_, fun k hk y hy h1 h2 => ?_, ?_, fun y hy h1 h2 => ?_⟩
      · rw [Wp] at hx
        split at hx
        · rename_i e
          cases hx
          refine ⟨hg, .inr ⟨hxb, hxs⟩, by rw [hxb]; exact hne, e.symm, fun y hy h1 h2 h3 => ?_⟩
          rcases h1 with h1 | h1
          · exact hold y hy h1 h2 (by omega)
          · rw [hyx y hy h1]; exact Nat.le_refl _
        · rename_i e
          obtain ⟨a1, a2, a3, a4, a5⟩ := h.so k x hx
          refine ⟨a1, .inl a2, a3, a4, fun y hy h1 h2 h3 => ?_⟩
          rcases h1 with h1 | h1
          · exact a5 y hy h1 h2 h3
          · rw [hyx y hy h1] at h3; exact absurd h3.symm e
      · rw [Wp] at hk
        split at hk
        · cases hk
        · rename_i e
          rcases h1 with h1 | h1
          · exact h.no k hk y hy h1 h2
          · rw [hyx y hy h1]; exact fun e2 => e e2.symm
      · exact Nat.le_trans h.n0 (Nat.le_max_left _ _)
      · rcases h1 with h1 | h1
        · exact Nat.le_trans (h.nu y hy h1 h2) (Nat.le_max_left _ _)
        · rw [hyx y hy h1]; exact Nat.le_max_right _ _
    | false =>
      simp only [Bool.false_eq_true, if_false]
      obtain ⟨o, ho⟩ : ∃ o, Yv x0.key s.2 = some o := by
        cases e : Yv x0.key s.2 with
        | some o => exact ⟨o, rfl⟩
        | none => unfold Y9 at hnw; rw [e] at hnw; cases hnw
      have hle : x0.num ≤ o.num := by
        unfold Y9 at hnw; rw [ho] at hnw
        have := of_decide_eq_false hnw
        omega
      refine ⟨h.nd, fun k x hx => ?_, fun k hk y hy h1 h2 => ?_, Nat.le_trans h.n0 (Nat.le_max_left _ _), fun y hy h1 h2 => ?_⟩
      · obtain ⟨a1, a2, a3, a4, a5⟩ := h.so k x hx
        refine ⟨a1, .inl a2, a3, a4, fun y hy h1 h2 h3 => ?_⟩
        rcases h1 with h1 | h1
        · exact a5 y hy h1 h2 h3
        · have e := hyx y hy h1
          subst e
          rw [h3, hx] at ho
          cases ho
          exact hle
      · rcases h1 with h1 | h1
        · exact h.no k hk y hy h1 h2
        · have e := hyx y hy h1
          subst e
          intro e2
          rw [e2, hk] at ho; cases ho
      · rcases h1 with h1 | h1
        · exact Nat.le_trans (h.nu y hy h1 h2) (Nat.le_max_left _ _)
        · rw [hyx y hy h1]; exact Nat.le_max_right _ _
theorem ScOk.blk {b : List Nat} {but : Int} {seen : Nat → Nat → Prop} {n0 : Nat} {s : Nat × List En} (h : ScOk b but seen n0 s) {bk : Nat} (hbk : bk < b.length / 256) : ∀ k, k ≤ 10 → ScOk b but (fun p q => seen p q ∨ (p = bk ∧ q < k)) n0 (XY b but bk s k)
  | 0, _ => h.congr fun p q _ => ⟨.inl, fun h2 => h2.resolve_right fun h3 => absurd h3.2 (Nat.not_lt_zero _)⟩
  | k + 1, hk => by
    rw [YS]
    refine ((h.blk hbk k (by omega)).step hbk (show k < 10 by omega)).congr fun p q _ => ?_
    constructor
    · rintro ((h3 | h3) | h3)
      · exact .inl h3
      · exact .inr ⟨h3.1, by omega⟩
      · exact .inr ⟨h3.1, by omega⟩
    · rintro (h3 | h3)
      · exact .inl (.inl h3)
      · by_cases e : q = k
        · exact .inr ⟨h3.1, e⟩
        · exact .inl (.inr ⟨h3.1, by omega⟩)
theorem ScOk.all (b : List Nat) (but : Int) (n0 : Nat) : ∀ k, k ≤ b.length / 256 → ScOk b but (fun p _ => p < k) n0 (Zdb b but n0 k)
  | 0, _ => ⟨List.nodup_nil, (fun k x hx => by cases hx), fun k _ y _ h1 => absurd h1 (Nat.not_lt_zero _), Nat.le_refl _, fun y _ h1 => absurd h1 (Nat.not_lt_zero _)⟩
  | k + 1, hk => by
    rw [VV]
    refine ((ScOk.all b but n0 k (by omega)).blk (show k < b.length / 256 by omega) 10 (Nat.le_refl _)).congr fun p q hq => ?_
    constructor
    · rintro (h | h)
      · omega
      · omega
    · intro h
      by_cases e : p = k
      · exact .inr ⟨e, hq⟩
      · exact .inl (by omega)
theorem Zib (b : List Nat) (but : Int) (n0 : Nat) : ScOk b but (fun p _ => p < b.length / 256) n0 (WC b but n0) := ScOk.all b but n0 _ (Nat.le_refl _)
theorem Ze7 {b : List Nat} {e : Nat} (he : e < b.length / 256) : Wn b e = true → Vc b e := fun h y hy hye => by
  have hs := Zib b (e : Int) 0
  unfold Wn JN at h
  rw [List.all_eq_true] at h
  have h1 := h y.sl (List.mem_range.2 hy.sl)
  unfold Xf at h1
  have hg := hy.good
  rw [hye] at hg
  have he2 := hy.eq
  rw [hye] at he2
  rw [hg, Bool.false_or, he2] at h1
  have h2 : Y9 y (WC b e 0).2 = false := by
    cases e2 : Y9 y (WC b e 0).2 with
    | false => rfl
    | true => rw [e2] at h1; cases h1
  unfold Y9 at h2
  cases e2 : Yv y.key (WC b e 0).2 with
  | none => rw [e2] at h2; cases h2
  | some o =>
    rw [e2] at h2
    obtain ⟨a1, a2, a3, a4, a5⟩ := hs.so _ o e2
    have := of_decide_eq_false h2
    exact ⟨o, a1, fun e3 => a3 (by rw [e3]), a4, by omega⟩
theorem Zn2 {b : List Nat} {e : Nat} (he : e < b.length / 256) (h : Vc b e) : Wn b e = true := by
  have hs := Zib b (e : Int) 0
  unfold Wn JN
  rw [List.all_eq_true]
  intro sl hsl
  have hsl := List.mem_range.1 hsl
  unfold Xf
  cases hb : X1 (slotB b e sl) with
  | true => rfl
  | false =>
    obtain ⟨z, hz, z1, z2, z3⟩ := h (enB b e sl) ⟨he, hsl, hb, rfl⟩ rfl
    have : Y9 (enB b e sl) (WC b e 0).2 = false := by
      unfold Y9
      cases e2 : Yv (enB b e sl).key (WC b e 0).2 with
      | none => exact absurd z2 (hs.no _ e2 z hz hz.bk (by omega))
      | some o =>
        obtain ⟨a1, a2, a3, a4, a5⟩ := hs.so _ o e2
        have := a5 z hz hz.bk (by omega) z2
        exact decide_eq_false (by omega)
    rw [this]; rfl
end Iv
namespace Iv
structure SI (b : List Nat) (P : List En) (num fb : Nat) (V : Yb) : Prop where
  fi : FI b num V
  nd : (P.map En.key).Nodup
  so : ∀ k x, Yv k P = some x → Gd b x ∧ x.key = k ∧ V k = some (x.num, x.val)
  no : ∀ k, Yv k P = none → V k = none
  hfb : fb < b.length / 256
  em : ∀ i, i < 256 → gB b (fb * 256 + i) = 255
theorem Zdp {b : List Nat} (hlt : ∀ z ∈ b, z < 256) {fb sl c : Nat} (hc : c ≤ sl) (h : ∀ i, c * 24 ≤ i → i < 256 → gB b (fb * 256 + i) = 255) (hsl : sl < 10) : Yg (slotB b fb sl) = 0 := by
  refine (WZ (Wz hlt fb sl)).2 fun k hk => ?_
  have h24 : k < 24 := by simp [slotB] at hk; omega
  rw [Zbw _ _ _ h24, show fb * 256 + sl * 24 + k = fb * 256 + (sl * 24 + k) by omega]
  exact h _ (by omega) (by omega)
theorem em_no {b : List Nat} (hlt : ∀ z ∈ b, z < 256) {fb : Nat} (h : ∀ i, i < 256 → gB b (fb * 256 + i) = 255) {y : En} (hy : Gd b y) : y.bk ≠ fb := fun e => by
  have h1 := hy.bk
  have h2 := hy.sl
  have h0 := Zdp hlt (fb := fb) (Nat.zero_le y.sl) (fun i _ hi => h i hi) h2
  have := Zgp (WD (b := b) (bk := fb) (sl := y.sl) (by omega)) (Wz hlt _ _) h0
  have h3 := hy.good
  rw [e, this] at h3; cases h3
theorem Ze8 {b : List Nat} (hlt : ∀ z ∈ b, z < 256) {fb : Nat} (h : ∀ i, i < 256 → gB b (fb * 256 + i) = 255) : Vc b fb := fun y hy e => absurd e (em_no hlt h hy)
theorem em_iff {b : List Nat} (hlt : ∀ z ∈ b, z < 256) {bk : Nat} (hbk : bk < b.length / 256) : Jq b bk ↔ ∀ i, i < 256 → gB b (bk * 256 + i) = 255 := by
  unfold Jq
  rw [WZ (fun z hz => hlt z (List.mem_of_mem_drop (List.mem_of_mem_take hz)))]
  have hl : ((b.drop (bk * 256)).take 256).length = 256 := by simp; omega
  rw [hl]
  constructor
  · exact fun h i hi => by rw [← WX b (bk * 256) 256 i hi]; exact h i hi
  · exact fun h i hi => by rw [WX b (bk * 256) 256 i hi]; exact h i hi
theorem wr_of {f g : Fl} {e : Int} {bk sl key num : Nat} {vs : List Nat} (hbk : bk < f.b.length / 256) (hsl : sl < 10) (hem : Yg (slotB f.b bk sl) = 0) (hv : EnV key num vs) (h : Wrote f (bk * 256 + sl * 24) (packP key num vs) g e) : Wr f.b g.b bk sl key num vs :=
  ⟨hbk, hsl, hem, hv, h.len, h.ok.bs, h.out, h.cov⟩
structure MI (f0 : Fl) (P0 : List En) (num fb v : Nat) (V : Yb) (ks : List Nat) (i : Nat) (s : (Fl × List En) × Nat × Int) : Prop where
  ok : s.1.1.Ok
  len : s.1.1.b.length = f0.b.length
  st : s.1.1.st = f0.st
  er : s.1.1.er = f0.er
  pr : s.1.1.pr ≤ f0.pr + 24 * i
  fi : FI s.1.1.b num V
  keys : s.1.2.map En.key = P0.map En.key
  so : ∀ k x, Yv k s.1.2 = some x → Gd s.1.1.b x ∧ x.key = k ∧ V k = some (x.num, x.val)
  sp : ∀ y, Gd s.1.1.b y → y.bk = fb → ∃ z, Gd s.1.1.b z ∧ z.bk = v ∧ z.key = y.key ∧ z.num = y.num
  res : (s.2.2 = 0 ∧ s.1.1.down = false ∧ s.2.1 + Xs s.1.2 v = Xs P0 v ∧ (∀ i, s.2.1 * 24 ≤ i → i < 256 → gB s.1.1.b (fb * 256 + i) = 255) ∧ ∀ k ∈ ks.take i, ∀ x, Yv k s.1.2 = some x → x.bk ≠ v) ∨ (s.2.2 = 9 ∧ s.1.1.down = true)
  no : f0.left = -1 → s.2.2 = 0 ∧ s.1.1.left = -1
theorem mem_take_succ {ks : List Nat} {i k : Nat} (hk : ks[i]? = some k) {q : Nat} (h : q ∈ ks.take (i + 1)) : q ∈ ks.take i ∨ q = k := by
  rw [take_at hk] at h
  rcases List.mem_append.1 h with h | h
  · exact .inl h
  · exact .inr (List.mem_singleton.1 h)
theorem MI.step {f0 : Fl} {P0 : List En} {num fb v : Nat} {V : Yb} {ks : List Nat} {i : Nat} {s : (Fl × List En) × Nat × Int} (h : MI f0 P0 num fb v V ks i s) (hpr : f0.pr + 24 * i + 24 < 4611686018427387904) (hfb : fb < f0.b.length / 256) (hv : v ≠ fb) (hc : Xs P0 v < 10) {k : Nat} (hk : ks[i]? = some k) : MI f0 P0 num fb v V ks (i + 1) (VD fb v s k) := by
  have hp := h.pr
  have stay : ((s.2.2 = 0 ∧ ∀ x, Yv k s.1.2 = some x → x.bk ≠ v) ∨ s.2.2 = 9) → MI f0 P0 num fb v V ks (i + 1) s := fun hx => by
    refine ⟨h.ok, h.len, h.st, h.er, by omega, h.fi, h.keys, h.so, h.sp, ?_, h.no⟩
    rcases h.res with ⟨r1, r2, r3, r4, r5⟩ | r
    · refine .inl ⟨r1, r2, r3, r4, fun q hq x hx2 => ?_⟩
      rcases mem_take_succ hk hq with hq | rfl
      · exact r5 q hq x hx2
      · rcases hx with hx | hx
        · exact hx.2 x hx2
        · rw [r1] at hx; cases hx
    · exact .inr r
  unfold VD
  rcases h.res with ⟨r1, r2, r3, r4, r5⟩ | ⟨r1, r2⟩
  · rw [if_neg (by rw [r1]; decide)]
    cases hg : Yv k s.1.2 with
    | none => exact stay (.inl ⟨r1, fun x hx => by rw [hg] at hx; cases hx⟩)
    | some x =>
      simp only
      by_cases hxv : x.bk = v
      · rw [if_neg (by rw [hxv]; simp)]
        obtain ⟨a1, a2, a3⟩ := h.so k x hg
        have hxe := a1.ok h.fi.lt h.fi.nb
        have hxg : Yv x.key s.1.2 = some x := by rw [a2]; exact hg
        have hcp := Zh7 (z := ⟨x.key, x.num, x.val, fb, s.2.1⟩) hxv (show fb ≠ v from fun e => hv e.symm) hxg
        have hsl : s.2.1 < 9 := by omega
        have hlm := h.fi.lm
        have hlen := h.len
        have hem := Zdp h.fi.lt (fb := fb) (Nat.le_refl s.2.1) r4 (by omega)
        have hplt := XN (num := x.num) (show x.key < 65536 by have := hxe.key; omega) hxe.val hxe.len
        have hw := wrote h.ok r2 (o := fb * 256 + s.2.1 * 24) (Xe (key := x.key) (num := x.num) hxe.len) hplt (by omega) (by omega) hem
        have hwr := wr_of (by omega) (by omega) hem hxe.v hw
        obtain ⟨g1, g2, g3⟩ := hwr.gd h.fi
        obtain ⟨r, hr⟩ : ∃ r, ZW s.1.1 (fb * 256 + s.2.1 * 24) (packP x.key x.num x.val) = r := ⟨_, rfl⟩
        rw [hr] at hw hwr g1 g2 g3 ⊢
        have hfi := hwr.copy h.fi (by rw [a2]; exact a3)
        have hpr2 := hw.pr
        have hsp2 : ∀ y, Gd r.1.b y → y.bk = fb → ∃ z, Gd r.1.b z ∧ z.bk = v ∧ z.key = y.key ∧ z.num = y.num := fun y hy hyb => by
          rcases g2 y hy with h1 | ⟨rfl, _⟩
          · obtain ⟨z, z1, z2⟩ := h.sp y h1 hyb
            exact ⟨z, (g1 z z1).1, z2⟩
          · exact ⟨x, (g1 x a1).1, hxv, rfl, rfl⟩
        by_cases he : r.2 = 0
        · rw [if_neg (by rw [he]; simp)]
          have hres : r.1.down = false ∧ slotB r.1.b fb s.2.1 = packP x.key x.num x.val := by
            rcases hw.res with q | q
            · exact q.2
            · rw [he] at q; exact absurd q.1 (by decide)
          have hgx := g3 hres.2
          refine ⟨hw.ok, by rw [← h.len]; exact hw.len, by rw [← h.st]; exact hw.st, by rw [← h.er]; exact hw.er, by simp only; omega, hfi, ?_, fun q x2 hx2 => ?_, hsp2, .inl ⟨rfl, hres.1, by simp only; omega, fun j h1 h2 => ?_, fun q hq x2 hx2 => ?_⟩, fun h0 => ⟨rfl, (hw.no (h.no h0).2).2⟩⟩
          · simp only
            rw [VX (by simp only; rw [hxg]; rfl)]; exact h.keys
          · simp only at hx2
            rw [Wp] at hx2
            simp only at hx2
            split at hx2
            · rename_i e
              cases hx2
              exact ⟨hgx, e.symm, by rw [e, a2]; exact a3⟩
            · obtain ⟨b1, b2, b3⟩ := h.so q x2 hx2
              exact ⟨(g1 x2 b1).1, b2, b3⟩
          · simp only at h1
            have := hw.out (fb * 256 + j) (by omega)
            simp only
            rw [this]
            exact r4 j (by omega) h2
          · simp only at hx2
            rw [Wp] at hx2
            simp only at hx2
            split at hx2
            · cases hx2
              exact fun e => hv e.symm
            · rename_i e
              rcases mem_take_succ hk hq with hq | rfl
              · exact r5 q hq x2 hx2
              · exact absurd a2.symm e
        · rw [if_pos he]
          have hres : r.2 = 9 ∧ r.1.down = true := by
            rcases hw.res with q | q
            · exact absurd q.1 he
            · exact q
          exact ⟨hw.ok, by rw [← h.len]; exact hw.len, by rw [← h.st]; exact hw.st, by rw [← h.er]; exact hw.er, by simp only; omega, hfi, h.keys, fun q x2 hx2 => by
            obtain ⟨b1, b2, b3⟩ := h.so q x2 hx2
            exact ⟨(g1 x2 b1).1, b2, b3⟩, hsp2, .inr hres, fun h0 => absurd (hw.no (h.no h0).2).1 he⟩
      · rw [if_pos hxv]
        exact stay (.inl ⟨r1, fun x2 hx2 => by rw [hg] at hx2; cases hx2; exact hxv⟩)
  · rw [if_pos (by rw [r1]; decide)]
    exact stay (.inr r1)
theorem MI.all {f0 : Fl} {P0 : List En} {num fb v : Nat} {V : Yb} {ks : List Nat} (h : MI f0 P0 num fb v V ks 0 ((f0, P0), 0, 0)) (hpr : f0.pr + 24 * ks.length + 24 < 4611686018427387904) (hfb : fb < f0.b.length / 256) (hv : v ≠ fb) (hc : Xs P0 v < 10) : ∀ i, i ≤ ks.length → MI f0 P0 num fb v V ks i (VW fb v ks f0 P0 i)
  | 0, _ => h
  | i + 1, hi => by
    obtain ⟨k, hk⟩ := get_some (show i < ks.length by omega)
    rw [Zdn hk]
    exact (h.all hpr hfb hv hc i (by omega)).step (by omega) hfb hv hc hk
def sumN (g : Nat → Nat) : Nat → Nat
  | 0 => 0
  | n + 1 => sumN g n + g n
theorem Zgr (x : En) (P : List En) : ∀ n, sumN (Xs (x :: P)) n = sumN (Xs P) n + if x.bk < n then 1 else 0
  | 0 => by simp [sumN]
  | n + 1 => by
    simp only [sumN]
    rw [Zgr x P n]
    simp only [Xs, List.countP_cons]
    by_cases e : x.bk = n
    · simp [e]; omega
    · by_cases e2 : x.bk < n
      · simp [e, e2, show x.bk < n + 1 by omega]; omega
      · simp [e, e2, show ¬ x.bk < n + 1 by omega]
theorem Zj6 {n : Nat} : ∀ {P : List En}, (∀ x ∈ P, x.bk < n) → sumN (Xs P) n = P.length
  | [], _ => by
    have : ∀ n, sumN (Xs []) n = 0 := fun n => by
      induction n with
      | zero => rfl
      | succ n ih => simp only [sumN, ih]; rfl
    rw [this]; rfl
  | x :: P, h => by
    rw [Zgr, Zj6 fun y hy => h y (List.mem_cons_of_mem _ hy), if_pos (h x List.mem_cons_self)]; rfl
theorem Zm1 {g : Nat → Nat} {c fb : Nat} : ∀ n, (∀ i, i < n → i ≠ fb → c ≤ g i) → c * n ≤ sumN g n + if fb < n then c else 0
  | 0, _ => by simp
  | n + 1, h => by
    have ih := Zm1 (g := g) (c := c) (fb := fb) n fun i hi hne => h i (by omega) hne
    simp only [sumN]
    rw [Nat.mul_succ]
    by_cases e : n = fb
    · subst e
      rw [if_neg (Nat.lt_irrefl _)] at ih
      rw [if_pos (Nat.lt_succ_self _)]
      omega
    · have := h n (Nat.lt_succ_self _) e
      by_cases e2 : fb < n
      · rw [if_pos e2] at ih; rw [if_pos (by omega)]; omega
      · rw [if_neg e2] at ih; rw [if_neg (by omega)]; omega
theorem Vx : ∀ {P : List En} {x : En}, (P.map En.key).Nodup → x ∈ P → Yv x.key P = some x
  | [], x, _, h => by cases h
  | y :: l, x, hn, h => by
    simp only [List.map_cons, List.nodup_cons] at hn
    unfold Yv
    rcases List.mem_cons.1 h with rfl | h
    · rw [if_pos rfl]
    · rw [if_neg (fun e => hn.1 (by rw [← e]; exact List.mem_map_of_mem h))]
      exact Vx hn.2 h
theorem Zlv {P : List En} {k : Nat} (h : k ∈ P.map En.key) : k ∈ keysP P := (JP _).mem_iff.2 h
structure CleanIs (f : Fl) (P : List En) (num : Nat) (V : Yb) (e : Int) (f' : Fl) (P' : List En) (fb' : Nat) : Prop where
  ok : f'.Ok
  len : f'.b.length = f.b.length
  st : f'.st = f.st
  er : f'.er ≤ f.er + 1
  pr : f'.pr ≤ f.pr + 24 * P.length
  keys : P'.map En.key = P.map En.key
  res : (e = 0 ∧ f'.down = false ∧ SI f'.b P' num fb' V ∧ ¬ NoRoom f'.b fb') ∨ (e = 9 ∧ f'.down = true ∧ FI f'.b num V ∧ ∃ q, q < f.b.length / 256 ∧ Vc f'.b q)
  no : f.left = -1 → e = 0 ∧ f'.left = -1
theorem clean_is {f f' : Fl} {P P' : List En} {num fb fb' : Nat} {V : Yb} {e : Int} (hf : f.Ok) (hd : f.down = false) (hs : SI f.b P num fb V) (hcap : P.length ≤ 10 * (f.b.length / 256 - 2)) (hpr : f.pr + 24 * P.length + 24 < 4611686018427387904) (her : f.er + 1 < 4611686018427387904) (hc : Ze0 f P fb e f' P' fb') : CleanIs f P num V e f' P' fb' := by
  obtain ⟨v, hv1, hv2, hv3, hc⟩ := hc
  have hlo := hf.lo
  have hkl := keysP_len P
  have hbk : ∀ x ∈ P, Gd f.b x := fun x hx => (hs.so _ x (Vx hs.nd hx)).1
  have h10 : Xs P v < 10 := by
    have h1 := Zj6 (n := f.b.length / 256) fun x hx => (hbk x hx).bk
    have h2 := Zm1 (g := Xs P) (c := Xs P v) (fb := fb) (f.b.length / 256) hv3
    rw [if_pos hs.hfb, h1] at h2
    apply Decidable.byContradiction
    intro hn
    have h3 : 10 * (f.b.length / 256 - 1) ≤ Xs P v * (f.b.length / 256 - 1) := Nat.mul_le_mul_right _ (by omega)
    rw [Nat.mul_sub, Nat.mul_one] at h3
    rw [Nat.mul_sub_one] at h3
    omega
  rcases hc with ⟨h, _⟩ | ⟨_, hc⟩
  · omega
  have hM0 : MI f P num fb v V (keysP P) 0 ((f, P), 0, 0) := ⟨hf, rfl, rfl, rfl, Nat.le_add_right _ _, hs.fi, rfl, hs.so, fun y hy e => absurd e (em_no hs.fi.lt hs.em hy), .inl ⟨rfl, hd, by simp, fun i _ hi => hs.em i hi, fun k hk => by simp at hk⟩, fun h => ⟨rfl, h⟩⟩
  have hM := hM0.all (by omega) hs.hfb hv2 h10 (keysP P).length (Nat.le_refl _)
  obtain ⟨s, hsE⟩ : ∃ s, VW fb v (keysP P) f P (keysP P).length = s := ⟨_, rfl⟩
  rw [hsE] at hM hc
  have hlen := hM.len
  have hMpr := hM.pr
  rcases hc with ⟨hne, rfl, rfl, rfl, rfl⟩ | ⟨h0, rfl, rfl, rfl, hfb'⟩
  · rcases hM.res with ⟨r1, _⟩ | ⟨r1, r2⟩
    · exact absurd r1 hne
    · exact ⟨hM.ok, hM.len, hM.st, by rw [hM.er]; exact Nat.le_succ _, by omega, hM.keys, .inr ⟨r1, r2, hM.fi, fb', hs.hfb, fun y hy hyb => by
        obtain ⟨z, z1, z2, z3, z4⟩ := hM.sp y hy hyb
        exact ⟨z, z1, by omega, z3, by omega⟩⟩, fun h => absurd (hM.no h).1 hne⟩
  · obtain ⟨r1, r2, r3, r4, r5⟩ := (hM.res.resolve_right fun h => by rw [h0] at h; exact absurd h.1 (by decide))
    have hMer := hM.er
    have hE := erased hM.ok r2 (k := v) (by omega) (by omega)
    have hnov : ∀ k x, Yv k s.1.2 = some x → x.bk ≠ v := fun k x hx => by
      refine r5 k ?_ x hx
      rw [List.take_length]
      refine Zlv ?_
      rw [← hM.keys]
      apply Decidable.byContradiction
      intro hn
      obtain ⟨a1, a2, a3⟩ := hM.so k x hx
      have hmem : ∀ {Q : List En}, Yv k Q = some x → k ∈ Q.map En.key := fun {Q} => by
        induction Q with
        | nil => intro h; cases h
        | cons y l ih =>
          intro h
          unfold Yv at h
          split at h
          · rename_i e; rw [e]; simp
          · exact List.mem_cons_of_mem _ (ih h)
      exact hn (hmem hx)
    have hgone : ∀ k, Yv k s.1.2 = none → V k = none := fun k hk => by
      have h1 := Zgq hk
      rw [hM.keys] at h1
      cases e : Yv k P with
      | none => exact hs.no k e
      | some x =>
        have := (hs.so k x e).2.1
        refine absurd ?_ h1
        have hmem : ∀ {Q : List En}, Yv k Q = some x → k ∈ Q.map En.key := fun {Q} => by
          induction Q with
          | nil => intro h; cases h
          | cons y l ih =>
            intro h
            unfold Yv at h
            split at h
            · rename_i e; rw [e]; simp
            · exact List.mem_cons_of_mem _ (ih h)
        exact hmem e
    have hspare : Vc s.1.1.b v := fun y hy hyb => by
      cases e : Yv y.key s.1.2 with
      | none => exact absurd rfl (hM.fi.topN _ (hgone _ e) y hy)
      | some x =>
        obtain ⟨a1, a2, a3⟩ := hM.so _ x e
        exact ⟨x, a1, hnov _ x e, a2, (hM.fi.topS _ _ _ a3).2 y hy rfl⟩
    obtain ⟨i1, i2, i3, i4⟩ := hM.fi.erase hspare (by omega) hE.len hE.ok.bs hE.out hE.cov
    refine ⟨hE.ok, by rw [← hM.len]; exact hE.len, by rw [← hM.st]; exact hE.st, by rw [← hM.er]; exact hE.er, by rw [hE.pr]; omega, hM.keys, ?_, fun h => hE.no (hM.no h).2⟩
    rcases hE.res with ⟨q0, q1, q2⟩ | ⟨q0, q1⟩
    · rw [if_neg (by rw [q0]; simp)] at hfb'
      subst hfb'
      refine .inl ⟨q0, q1, ⟨i1, by rw [hM.keys]; exact hs.nd, fun k x hx => ?_, hgone, by rw [hE.len]; omega, q2⟩, fun hno => ?_⟩
      · obtain ⟨a1, a2, a3⟩ := hM.so k x hx
        exact ⟨i4 x a1 (hnov k x hx), a2, a3⟩
      · refine hno fb s.2.1 (by rw [hE.len, hM.len]; exact hs.hfb) (by omega) (by omega) ?_
        rw [Zia (b := s.1.1.b) hE.len fun i hi => hE.out _ (by omega)]
        exact Zdp hM.fi.lt (Nat.le_refl _) r4 (by omega)
    · exact .inr ⟨q0, q1, i1, v, by omega, i2⟩
structure WroteIs (f : Fl) (P : List En) (num fb id : Nat) (V : Yb) (key : Nat) (vs : List Nat) (e : Int) (f' : Fl) (P' : List En) (num' id' : Nat) : Prop where
  ok : f'.Ok
  len : f'.b.length = f.b.length
  st : f'.st = f.st
  er : f'.er = f.er
  pr : f'.pr ≤ f.pr + 24
  res : (e = 0 ∧ f'.down = false ∧ num' = num + 1 ∧ id' = id ∧ SI f'.b P' (num + 1) fb (Zat V key (num + 1) vs) ∧ (Yv key P = none → P'.length = P.length + 1) ∧ (∀ x, Yv key P = some x → P'.length = P.length)) ∨
    (e = 9 ∧ f'.down = true ∧ id' = 0 ∧ P' = P ∧ num' = num ∧ ∃ V', (V' = V ∨ V' = Zat V key (num + 1) vs) ∧ FI f'.b (num + 1) V' ∧ Vc f'.b fb)
  no : f.left = -1 → e = 0 ∧ f'.left = -1
theorem Zj7 {f f' : Fl} {P P' : List En} {num fb id num' id' key : Nat} {V : Yb} {vs : List Nat} {e : Int} (hf : f.Ok) (hd : f.down = false) (hs : SI f.b P num fb V) (hpr : f.pr + 24 < 4611686018427387904) (hv : EnV key (num + 1) vs) (hw : Ze1 f P num fb id key vs e f' P' num' id') : WroteIs f P num fb id V key vs e f' P' num' id' := by
  obtain ⟨bk, sl, hroom, rfl, rfl, hw⟩ := hw
  have hbk := hroom.hbk
  have hsl := hroom.hsl
  have hne : bk ≠ fb := fun e => hroom.ne (by rw [e])
  have hlm := hs.fi.lm
  have hplt := XN (num := num + 1) (show key < 65536 by have := hv.key; omega) hv.val hv.len
  have h1 := wrote hf hd (o := bk * 256 + sl * 24) (Xe (key := key) (num := num + 1) hv.len) hplt hpr (by omega) hroom.em
  have hwr := wr_of hbk hsl hroom.em hv h1
  obtain ⟨g1, g2, g3⟩ := hwr.gd hs.fi
  obtain ⟨r, hr⟩ : ∃ r, ZW f (bk * 256 + sl * 24) (packP key (num + 1) vs) = r := ⟨_, rfl⟩
  rw [hr] at h1 hwr g1 g2 g3 hw ⊢
  have hem : ∀ i, i < 256 → gB r.1.b (fb * 256 + i) = 255 := fun i hi => by
    rw [h1.out _ (by omega)]; exact hs.em i hi
  refine ⟨h1.ok, h1.len, h1.st, h1.er, h1.pr, ?_, h1.no⟩
  rcases h1.res with ⟨q0, q1, q2⟩ | ⟨q0, q1⟩
  · have hw := hw.resolve_left fun h => h.1 q0
    obtain ⟨_, rfl, rfl, rfl⟩ := hw
    refine .inl ⟨q0, q1, rfl, rfl, ⟨hwr.new hs.fi q2, Ze6 hs.nd, fun k x hx => ?_, fun k hk => ?_, by rw [h1.len]; exact hs.hfb, hem⟩, fun hn => ?_, fun x hx => ?_⟩
    · rw [Wp] at hx
      simp only [Zat]
      simp only at hx
      split at hx
      · rename_i e
        cases hx
        exact ⟨g3 q2, e.symm, by rw [if_pos e]⟩
      · rename_i e
        obtain ⟨a1, a2, a3⟩ := hs.so k x hx
        exact ⟨(g1 x a1).1, a2, by rw [if_neg e]; exact a3⟩
    · rw [Wp] at hk
      simp only at hk
      simp only [Zat]
      split at hk
      · cases hk
      · rename_i e
        rw [if_neg e]; exact hs.no k hk
    · have := congrArg List.length (VE (x := ⟨key, num + 1, vs, bk, sl⟩) hn)
      simpa using this
    · have := congrArg List.length (VX (x := ⟨key, num + 1, vs, bk, sl⟩) (P := P) (by simp only; rw [hx]; rfl))
      simpa using this
  · have hw := hw.resolve_right fun h => by rw [q0] at h; exact absurd h.1 (by decide)
    obtain ⟨_, rfl, rfl, rfl⟩ := hw
    refine .inr ⟨q0, q1, by rw [q0]; rfl, rfl, rfl, ?_⟩
    by_cases e : slotB r.1.b bk sl = packP key (num' + 1) vs
    · exact ⟨_, .inr rfl, hwr.new hs.fi e, Ze8 h1.ok.bs hem⟩
    · exact ⟨V, .inl rfl, (hwr.torn hs.fi e).mono (Nat.le_succ _), Ze8 h1.ok.bs hem⟩
structure PutIs (f : Fl) (P : List En) (num fb id : Nat) (V : Yb) (key : Nat) (vs : List Nat) (e : Int) (f' : Fl) (P' : List En) (num' fb' id' : Nat) : Prop where
  ok : f'.Ok
  len : f'.b.length = f.b.length
  st : f'.st = f.st
  er : f'.er ≤ f.er + 1
  pr : f'.pr ≤ f.pr + 24 * P.length + 24
  res : (e = 0 ∧ f'.down = false ∧ num' = num + 1 ∧ id' = id ∧ SI f'.b P' (num + 1) fb' (Zat V key (num + 1) vs) ∧ (Yv key P = none → P'.length = P.length + 1) ∧ (∀ x, Yv key P = some x → P'.length = P.length)) ∨
    (e = 9 ∧ f'.down = true ∧ ∃ V', (V' = V ∨ V' = Zat V key (num + 1) vs) ∧ FI f'.b (num + 1) V' ∧ ∃ q, q < f.b.length / 256 ∧ Vc f'.b q)
  no : f.left = -1 → e = 0 ∧ f'.left = -1
theorem Zn3 {P Q : List En} (h : P.map En.key = Q.map En.key) (k : Nat) : (Yv k P).isSome = (Yv k Q).isSome := by
  induction P generalizing Q with
  | nil => cases Q with
    | nil => rfl
    | cons y l => simp at h
  | cons x P ih => cases Q with
    | nil => simp at h
    | cons y l =>
      simp only [List.map_cons, List.cons.injEq] at h
      unfold Yv
      rw [h.1]
      split
      · rfl
      · exact ih h.2
theorem put_is {f f' : Fl} {P P' : List En} {num fb id num' fb' id' key : Nat} {V : Yb} {vs : List Nat} {e : Int} (hf : f.Ok) (hd : f.down = false) (hs : SI f.b P num fb V) (hcap : P.length ≤ 10 * (f.b.length / 256 - 2)) (hpr : f.pr + 24 * P.length + 48 < 4611686018427387904) (her : f.er + 1 < 4611686018427387904) (hv : EnV key (num + 1) vs) (hp : PutGo f P num fb id key vs e f' P' num' fb' id') : PutIs f P num fb id V key vs e f' P' num' fb' id' := by
  rcases hp with ⟨hw, rfl⟩ | ⟨_, e1, f1, P1, fb1, hc, hp⟩
  · have h := Zj7 hf hd hs (by omega) hv hw
    have := h.pr
    refine ⟨h.ok, h.len, h.st, by rw [h.er]; exact Nat.le_succ _, by omega, ?_, h.no⟩
    rcases h.res with r | ⟨r1, r2, _, _, _, V', r3, r4, r5⟩
    · exact .inl r
    · exact .inr ⟨r1, r2, V', r3, r4, fb', hs.hfb, r5⟩
  · have h := clean_is hf hd hs hcap (by omega) her hc
    have hpr1 := h.pr
    have her1 := h.er
    have hlen1 : P1.length = P.length := by simpa using congrArg List.length h.keys
    rcases hp with ⟨hne, rfl, rfl, rfl, rfl, rfl, rfl⟩ | ⟨h0, hno, _⟩ | ⟨h0, hw, rfl⟩
    · refine ⟨h.ok, h.len, h.st, h.er, by omega, ?_, h.no⟩
      rcases h.res with ⟨r, _⟩ | ⟨r1, r2, r3, r4⟩
      · exact absurd r hne
      · exact .inr ⟨r1, r2, V, .inl rfl, r3.mono (Nat.le_succ _), r4⟩
    · rcases h.res with ⟨_, _, _, r⟩ | ⟨r, _⟩
      · exact absurd hno r
      · rw [h0] at r; exact absurd r (by decide)
    · obtain ⟨_, d1, s1, _⟩ := h.res.resolve_right fun r => by rw [h0] at r; exact absurd r.1 (by decide)
      have h2 := Zj7 h.ok d1 s1 (by omega) hv hw
      have hpr2 := h2.pr
      refine ⟨h2.ok, by rw [h2.len, h.len], by rw [h2.st, h.st], by rw [h2.er]; exact h.er, by omega, ?_, fun hl => h2.no (h.no hl).2⟩
      have hgk := Zn3 h.keys key
      rcases h2.res with ⟨r1, r2, r3, r4, r5, r6, r7⟩ | ⟨r1, r2, _, _, _, V', r3, r4, r5⟩
      · refine .inl ⟨r1, r2, r3, r4, r5, fun hn => ?_, fun x hx => ?_⟩
        · rw [← hlen1]
          refine r6 ?_
          rw [hn] at hgk
          exact Option.isNone_iff_eq_none.1 (by rw [← Option.not_isSome, hgk]; rfl)
        · rw [← hlen1]
          rw [hx] at hgk
          obtain ⟨y, hy⟩ := Option.isSome_iff_exists.1 hgk
          exact r7 y hy
      · exact .inr ⟨r1, r2, V', r3, r4, fb', by rw [← h.len]; exact s1.hfb, r5⟩
theorem FI.num' {b : List Nat} {N M : Nat} {V : Yb} (h : FI b N V) (hM : ∀ y, Gd b y → y.num ≤ M) : FI b M V := ⟨h.lt, h.lm, h.nb, h.slo, hM, h.uq, h.topN, h.topS⟩
theorem FI.numB {b : List Nat} {N : Nat} {V : Yb} (h : FI b N V) : NumB b N := fun bk sl h1 h2 h3 => h.num (enB b bk sl) ⟨h1, h2, h3, rfl⟩
structure OpenIs (f : Fl) (N : Nat) (V : Yb) (f2 : Fl) (P : List En) (num bk : Nat) : Prop where
  si : SI f2.b P num bk V
  num : num ≤ N
  down : f2.down = false
  st : f2.st = f.st + 1
  er : f2.er ≤ f.er + 1
  pr : f2.pr = f.pr
  no : f.left = -1 → f2.left = -1
theorem Ze9 {b : List Nat} {N : Nat} {V : Yb} {num num0 bk : Nat} {P : List En} (hfi : FI b N V) (hsc : (num, P) = WC b (-1) num0) (hn0 : num0 ≤ N) (hbk : bk < b.length / 256) (hem : ∀ i, i < 256 → gB b (bk * 256 + i) = 255) : SI b P num bk V ∧ num ≤ N := by
  have hs := Zib b (-1) num0
  have hle := Zey hfi.numB (but := -1) hn0
  rw [← hsc] at hs hle
  have hnu := hs.nu
  simp only at hnu hle
  refine ⟨⟨hfi.num' fun y hy => hnu y hy hy.bk (by omega), hs.nd, fun k x hx => ?_, fun k hk => ?_, hbk, hem⟩, hle⟩
  · obtain ⟨a1, a2, a3, a4, a5⟩ := hs.so k x hx
    refine ⟨a1, a4, ?_⟩
    cases e : V k with
    | none => exact absurd a4 (hfi.topN k e x a1)
    | some p =>
      obtain ⟨m, v⟩ := p
      obtain ⟨⟨y, y1, y2, y3, y4⟩, y5⟩ := hfi.topS k m v e
      have h1 := y5 x a1 a4
      have h2 := a5 y y1 y1.bk (by omega) y2
      have h3 := hfi.uq x y a1 y1 (by omega) (by omega)
      rw [h3, y4, show m = x.num by omega]
  · cases e : V k with
    | none => rfl
    | some p =>
      obtain ⟨m, v⟩ := p
      obtain ⟨⟨y, y1, y2, y3, y4⟩, y5⟩ := hfi.topS k m v e
      exact absurd y2 (hs.no k hk y y1 y1.bk (by omega))
theorem open_is {f f2 : Fl} {N num num0 bk : Nat} {V : Yb} {P : List En} (hf : f.Ok) (hst : f.st + 1 < 4611686018427387904) (her : f.er + 1 < 4611686018427387904) (hd : f.down = false) (hfi : FI f.b N V) (hop : Zbu { f with st := f.st + 1 } f2 bk) (hn0 : ∀ N, NumB f.b N → num0 ≤ N) (hsc : (num, P) = WC f2.b (-1) num0) : OpenIs f N V f2 P num bk := by
  obtain ⟨hbk, hop⟩ := hop
  have hn := hn0 N hfi.numB
  rcases hop with ⟨rfl, hem⟩ | ⟨hne, hsp, hE⟩
  · obtain ⟨h1, h2⟩ := Ze9 hfi hsc hn hbk ((em_iff hfi.lt hbk).1 hem)
    exact ⟨h1, h2, hd, rfl, Nat.le_succ _, rfl, fun h => h⟩
  · have hf1 : ({ f with st := f.st + 1 } : Fl).Ok := ⟨hf.bs, hf.ps, hf.len, hf.lo, hf.hi, hf.pl, hf.pr, hf.er, hst, hf.l0, hf.l1⟩
    have hEr := erased hf1 hd hbk her
    rw [hE] at hEr
    simp only at hEr
    obtain ⟨i1, i2, i3, i4⟩ := hfi.erase (Ze7 hbk hsp) hbk hEr.len hEr.ok.bs hEr.out hEr.cov
    have hr := hEr.res.resolve_right fun h => absurd h.1 (by decide)
    have hlen := hEr.len
    simp only at hlen hbk
    obtain ⟨h1, h2⟩ := Ze9 i1 hsc hn (by rw [hlen]; exact hbk) hr.2.2
    exact ⟨h1, h2, hr.2.1, hEr.st, hEr.er, hEr.pr, fun h => (hEr.no h).2⟩
theorem Zn4 {f : Fl} {N bk : Nat} {V : Yb} (hf : f.Ok) (hst : f.st + 1 < 4611686018427387904) (her : f.er + 1 < 4611686018427387904) (hd : f.down = false) (hfi : FI f.b N V) (hbk : bk < f.b.length / 256) (hsp : Wn f.b bk = true) : Erased { f with st := f.st + 1 } bk (Yh { f with st := f.st + 1 } (bk : Int)).1 (Yh { f with st := f.st + 1 } (bk : Int)).2 ∧ FI (Yh { f with st := f.st + 1 } (bk : Int)).1.b N V ∧ Vc (Yh { f with st := f.st + 1 } (bk : Int)).1.b bk := by
  have hf1 : ({ f with st := f.st + 1 } : Fl).Ok := ⟨hf.bs, hf.ps, hf.len, hf.lo, hf.hi, hf.pl, hf.pr, hf.er, hst, hf.l0, hf.l1⟩
  have hEr := erased hf1 hd hbk her
  obtain ⟨i1, i2, _⟩ := hfi.erase (Ze7 hbk hsp) hbk hEr.len hEr.ok.bs hEr.out hEr.cov
  exact ⟨hEr, i1, i2⟩
theorem fi_new {b : List Nat} (hb : ∀ z ∈ b, z = 255) (hlm : b.length % 256 = 0) (hnb : b.length / 256 ≤ 64) : FI b 0 (fun _ => none) := by
  have hlt : ∀ z ∈ b, z < 256 := fun z hz => by rw [hb z hz]; decide
  have h255 : ∀ k, k < b.length → gB b k = 255 := fun k hk => hb _ (Zlt hk)
  have hno : ∀ y, ¬ Gd b y := fun y hy => by
    have h1 := hy.bk
    exact em_no hlt (fb := y.bk) (fun i hi => h255 _ (by omega)) hy rfl
  refine ⟨hlt, hlm, hnb, fun bk sl h1 h2 => ?_, fun y hy => absurd hy (hno y), fun y z hy => absurd hy (hno y), fun k _ y hy => absurd hy (hno y), fun k m v h => by cases h⟩
  have hv : EnV 0 0 [] := ⟨by decide, by decide, by decide, fun z hz => by cases hz⟩
  refine ⟨0, 0, [], hv, cov_255 ?_ (XN (by decide) hv.val hv.len) (Wz hlt _ _) ?_⟩
  · rw [Xe hv.len, WD (by omega)]
  · exact Zdp hlt (Nat.zero_le _) (fun i _ hi => h255 _ (by omega)) h2
end Iv
namespace Iv
structure StOk (f : Fl) (id : Nat) (m : List (ME He)) (nb : Nat) (T : List HL) (num fb : Nat) (V : Yb) : Prop where
  ok : f.Ok
  dn : f.down = false
  hid : id = f.st
  ms : MSt m nb T
  si : SI f.b (plain m) num fb V
  cap : m.length ≤ 10 * (f.b.length / 256 - 2)
theorem StOk.ready {f : Fl} {id : Nat} {m : List (ME He)} {nb : Nat} {T : List HL} {num fb : Nat} {V : Yb} (h : StOk f id m nb T num fb V) : Wb f id = 0 := by
  unfold Wb; rw [if_neg (by rw [h.dn]; decide), if_neg (by rw [h.hid]; simp)]
theorem StOk.mono {f : Fl} {id : Nat} {m : List (ME He)} {nb : Nat} {T T' : List HL} {num fb : Nat} {V : Yb} (h : StOk f id m nb T num fb V) (hT : ∀ y ∈ T, y ∈ T') : StOk f id m nb T' num fb V := ⟨h.ok, h.dn, h.hid, h.ms.mono hT, h.si, h.cap⟩
theorem Zj8 {k : Nat} {x : En} : ∀ {Q : List En}, Yv k Q = some x → k ∈ Q.map En.key
  | [], h => by cases h
  | y :: l, h => by
    unfold Yv at h
    split at h
    · rename_i e; rw [e]; simp
    · exact List.mem_cons_of_mem _ (Zj8 h)
def X4 (key : Int) (V : Yb) : List Nat × Int := if key < 0 ∨ 999 < key then ([], 2) else match V key.toNat with | none => ([], 0) | some p => (p.2, 0)
end Iv
theorem GetM_ok (f : Fl) (bs bf : Nat) (rb : Option Nat) (cb : Nat) (rp : Option Nat) (cp : Nat) (id bm num fb : Nat) (m : List (ME He)) (nb : Nat) (T : List HL) (V : Yb) (hst : StOk f id m nb T num fb V) (S : List Nat) (w0 : World) (hown : Own w0 S w0 (.blk bs [.bool true, .pointer (some ⟨bf, 0, none⟩), natV id, .map (some bm), .int .u32 ((num : Nat) : Int), .int .i64 ((fb : Nat) : Int)] 138 :: .obj bm (Xo HV m nb) :: (FlH bf rb cb rp cp f ++ T))) (key : Int) : Sp Tryz.prog 180 [.pointer (some ⟨bs, 0, none⟩), .int .i64 key] w0 S (fun v L => ∃ (r : Option Nat) (c : Nat), v = .tuple #[.slice (rowA r) (X4 key V).1.length c, .int .i64 (X4 key V).2] ∧ L = .row 5 1 r (X4 key V).1.length c ((X4 key V).1.map u8V) :: (.blk bs [.bool true, .pointer (some ⟨bf, 0, none⟩), natV id, .map (some bm), .int .u32 ((num : Nat) : Int), .int .i64 ((fb : Nat) : Int)] 138 :: .obj bm (Xo HV m nb) :: (FlH bf rb cb rp cp f ++ T))) := by
  refine ZA Tryz.func180 rfl Tryz.ntmps180 rfl hown ?_
  simp only [ZT]
  refine Zb <| Za <| gas rfl rfl <| gas rfl rfl <| gA <| Zb <| Zb <| Za <| gm rfl rfl <| gr rfl (XH eg_33 Tryz.underlying33 rfl rfl) <| gm rfl rfl <| Zi rfl rfl <| Zn rfl (Zm rfl) <| Zi rfl rfl <| Zn rfl (ZI rfl) <| Zi rfl rfl <| Zn rfl (Zd rfl (Zeh _)) <| Zi rfl rfl (Zn rfl (Zh Tryz.underlying4 rfl rfl (by exact Zo 0 rfl rfl)) ?_)
  refine Zi rfl rfl <| Zn rfl (rd_not rfl) <| gr rfl (Zq rfl rfl) <| gA <| Zk rfl <| Zu <| Ze <| Zb <| Zb <| Za <| gm rfl rfl <| gr rfl (Z2 rfl rfl) (Zx (fun h17 => ?_) (fun h17 => ?_))
  · refine gm rfl rfl <| Zs rfl rfl rfl <| Zs rfl rfl rfl <| gr rfl (ZB rfl rfl) <| gA <| Zj rfl <| Zb <| Y2 5 1 <| Za <| gas rfl rfl <| gas rfl rfl <| gA <| Zp <| Zg <| Y5 (.inl rfl) Tryz.results180 rfl rfl (Yo 0 rfl) ?_
    rw [show X4 key V = ([], 2) by unfold X4; rw [if_pos (by omega)]]
    exact ⟨none, 0, rfl, rfl⟩
  refine gm rfl rfl <| Zi rfl rfl <| Zn rfl (Zm rfl) <| Zi rfl rfl (Zn rfl (YW rfl rfl) (Zx (fun h20 => ?_) (fun h20 => ?_)))
  · refine gr rfl (Zq rfl rfl) <| gA <| Zj rfl <| Zb <| Y2 5 1 <| Za <| gas rfl rfl <| gas rfl rfl <| gA <| Zp <| Zg <| Y5 (.inl rfl) Tryz.results180 rfl rfl (Yo 0 rfl) ?_
    rw [show X4 key V = ([], 2) by unfold X4; rw [if_pos (by omega)]]
    exact ⟨none, 0, rfl, rfl⟩
  refine gr rfl (Zq rfl rfl) <| gA <| Zk rfl <| Zu <| Ze <| Zb <| Zb <| Za <| gm rfl rfl <| Zl (ZD rfl (vf := []) (vc := []) rfl rfl Tryz.call184 (fun w1 ho => Zdj f hst.ok bs bf rb cb rp cp id bm num fb w1 (ho.blkCells 0 rfl) (ho.blkCells 2 rfl)) ?_)
  rintro _ _ ⟨rfl, rfl⟩
  rw [hst.ready]
  refine gas rfl rfl <| gA <| Zb <| Za <| gm rfl rfl <| gr rfl (ZX rfl rfl) (Zx (fun h25 => ?_) (fun h25 => ?_))
  · exact absurd rfl h25
  refine gA <| Zk rfl <| Zu <| Ze <| Zb ?_
  obtain ⟨k, rfl⟩ : ∃ k : Nat, key = k := ⟨key.toNat, by omega⟩
  rcases hg : XL ((k : Nat) : Int) m with _ | o
  · refine Za <| gm rfl rfl <| gnc rfl rfl <| gr rfl (Zd rfl (Yj _)) <| gr rfl (Zh Tryz.underlying135 rfl rfl (by exact Zo 0 rfl rfl)) ?_
    refine gr rfl (Zm rfl) ?_
    have hV : V k = none := hst.si.no k (hst.ms.none hg)
    refine gr rfl (Zaj 1 HV rfl Tryz.underlying135 Tryz.underlying3 Yz rfl rfl) ?_
    rw [hg, Option.map_none, Option.getD_none]
    refine gr rfl (Zaz rfl (Zjn _ _ _ _ _ _ _)) <| gr rfl (Zaz rfl (Zjm _ _ _ _ _)) <| Zl (ZD rfl (vf := []) (vc := []) rfl rfl Tryz.call39 (fun w2 ho => Xy [] none 0 w2 (Wi _ _ 1) (by decide)) ?_)
    rintro _ _ ⟨rc, cc, rfl, rfl⟩
    refine gas rfl rfl <| gas rfl rfl <| gA <| Zp <| Y5 (.inl rfl) Tryz.results180 rfl rfl (Yo 0 rfl) ?_
    rw [show X4 ((k : Nat) : Int) V = ([], 0) by unfold X4; rw [if_neg (by omega), Int.toNat_natCast, hV]]
    exact ⟨rc, cc, rfl, rfl⟩
  refine Za <| gm rfl rfl <| gnc rfl rfl <| gr rfl (Zd rfl (Yj _)) <| gr rfl (Zh Tryz.underlying135 rfl rfl (by exact Zo 0 rfl rfl)) ?_
  refine gr rfl (Zm rfl) ?_
  obtain ⟨hoe, hor, hok, hpg⟩ := hst.ms.get hg
  have hV : V k = some (o.en.num, o.en.val) := (hst.si.so k o.en hpg).2.2
  have ho16 := hoe.len
  refine gr rfl (Zaj 1 HV rfl Tryz.underlying135 Tryz.underlying3 Yz rfl rfl) ?_
  rw [hg, Option.map_some, Option.getD_some]
  refine gr rfl (Zaz rfl (Zjn _ _ _ _ _ _ _)) <| gr rfl (Zaz rfl (Zjm _ _ _ _ _)) <| Zl (ZD rfl (vf := []) (vc := []) rfl rfl Tryz.call39 (fun w2 ho => Xy o.en.val (rowA o.r) o.c w2 (ho.memSl (show o.row ∈ _ from by simp [hor])) (by omega)) ?_)
  rintro _ _ ⟨rc, cc, rfl, rfl⟩
  refine gas rfl rfl <| gas rfl rfl <| gA <| Zp <| Y5 (.inl rfl) Tryz.results180 rfl rfl (Yo 0 rfl) ?_
  rw [show X4 ((k : Nat) : Int) V = (o.en.val, 0) by unfold X4; rw [if_neg (by omega), Int.toNat_natCast, hV]]
  exact ⟨rc, cc, rfl, rfl⟩
theorem Keys_ok (f : Fl) (bs bf : Nat) (rb : Option Nat) (cb : Nat) (rp : Option Nat) (cp : Nat) (id bm num fb : Nat) (m : List (ME He)) (nb : Nat) (T : List HL) (V : Yb) (hst : StOk f id m nb T num fb V) (S : List Nat) (w0 : World) (hown : Own w0 S w0 (.blk bs [.bool true, .pointer (some ⟨bf, 0, none⟩), natV id, .map (some bm), .int .u32 ((num : Nat) : Int), .int .i64 ((fb : Nat) : Int)] 138 :: .obj bm (Xo HV m nb) :: FlH bf rb cb rp cp f)) : Sp Tryz.prog 181 [.pointer (some ⟨bs, 0, none⟩)] w0 S (fun v L => ∃ (r : Option Nat) (c : Nat), v = .tuple #[.slice (rowA r) (keysP (plain m)).length c, .int .i64 0] ∧ L = (.blk bs [.bool true, .pointer (some ⟨bf, 0, none⟩), natV id, .map (some bm), .int .u32 ((num : Nat) : Int), .int .i64 ((fb : Nat) : Int)] 138 :: .obj bm (Xo HV m nb) :: FlH bf rb cb rp cp f) ++ [.row 3 1 r (keysP (plain m)).length c ((keysP (plain m)).map natV)]) := by
  have hbl := hst.ok.hi
  have hcap := hst.cap
  refine ZA Tryz.func181 rfl Tryz.ntmps181 rfl hown ?_
  simp only [ZT]
  refine Zb <| Za <| gas rfl rfl <| gas rfl rfl <| gA <| Zb <| Zb <| Za <| gm rfl rfl <| Zl (ZD rfl (vf := []) (vc := []) rfl rfl Tryz.call184 (fun w1 ho => Zdj f hst.ok bs bf rb cb rp cp id bm num fb w1 (ho.blkCells 0 rfl) (ho.blkCells 2 rfl)) ?_)
  rintro _ _ ⟨rfl, rfl⟩
  rw [hst.ready]
  refine gas rfl rfl <| gA <| Zb <| Za <| gm rfl rfl <| gr rfl (ZX rfl rfl) (Zx (fun h8 => ?_) (fun h8 => ?_))
  · exact absurd rfl h8
  refine gA <| Zk rfl <| Zu <| Ze <| Zb <| Za <| gm rfl rfl <| Zl (Yf [0, 1, 2, 3, 4] [] rfl (vf := []) (vc := []) rfl rfl Tryz.call185 (by decide) rfl (fun w how hc => Zmv f hst.ok bs bf rb cb rp cp id bm num fb m nb T hst.ms _ w hc (by omega)) ?_)
  rintro _ _ ⟨rk, ck, rfl, rfl⟩
  refine gas rfl rfl <| gas rfl rfl <| gA <| Zp <| YI (.inl rfl) Tryz.results181 rfl rfl [0, 1, 2, 3, 4, 5] (by decide) ?_
  exact ⟨rk, ck, rfl, rfl⟩
namespace Iv
def CapV (V : Yb) (c : Nat) : Prop := ∀ b P n fb, SI b P n fb V → P.length ≤ c
structure OpenG (f : Fl) (N : Nat) (V : Yb) (f2 : Fl) (m : List (ME He)) (nb : Nat) (T : List HL) (num bk : Nat) : Prop where
  st : StOk f2 (f.st + 1) m nb T num bk V
  num : num ≤ N
  len : f2.b.length = f.b.length
  hst : f2.st = f.st + 1
  er : f2.er ≤ f.er + 1
  pr : f2.pr = f.pr
  no : f.left = -1 → f2.left = -1
structure OpenT (f : Fl) (N : Nat) (V : Yb) (f2 : Fl) : Prop where
  ok : f2.Ok
  dn : f2.down = true
  fi : FI f2.b N V
  sp : ∃ q, q < f.b.length / 256 ∧ Vc f2.b q
  len : f2.b.length = f.b.length
  hst : f2.st = f.st + 1
  er : f2.er ≤ f.er + 1
  pr : f2.pr = f.pr
  no : f.left ≠ -1
theorem OpenG_ok (f : Fl) (hf : f.Ok) (bf : Nat) (rb : Option Nat) (cb : Nat) (rp : Option Nat) (cp : Nat) (N : Nat) (V : Yb) (hfi : FI f.b N V) (hsp : ∃ q, q < f.b.length / 256 ∧ Vc f.b q) (hcap : CapV V (10 * (f.b.length / 256 - 2))) (S : List Nat) (w0 : World) (hown : Own w0 S w0 (FlH bf rb cb rp cp f)) (hst : f.st + 1 < 4611686018427387904) (her : f.er + 2 < 4611686018427387904) (hdn : f.down = false) :
    Sp Tryz.prog 28 [.pointer (some ⟨bf, 0, none⟩)] w0 S (fun v L => (∃ (bs bm : Nat) (m : List (ME He)) (nb : Nat) (T : List HL) (num : Nat) (f2 : Fl) (bk : Nat), v = .tuple #[.pointer (some ⟨bs, 0, none⟩), .int .i64 0] ∧ OpenG f N V f2 m nb T num bk ∧ L = (.blk bs [.bool true, .pointer (some ⟨bf, 0, none⟩), natV (f.st + 1), .map (some bm), .int .u32 ((num : Nat) : Int), .int .i64 ((bk : Nat) : Int)] 138 :: .obj bm (Xo HV m nb) :: (FlH bf rb cb rp cp f2 ++ T))) ∨ (∃ f2, v = .tuple #[.pointer none, .int .i64 9] ∧ OpenT f N V f2 ∧ L = FlH bf rb cb rp cp f2)) := by
  refine (Open_ok f hf bf rb cb rp cp S w0 hown hst her hdn).mono ?_
  rintro v L (⟨bs, bm, m, nb, T, num, num0, f2, bk, rfl, hop, hf2, hl2, hn0, hsc, hnum, hms, rfl⟩ | ⟨bk, hbk, _, hsb, hne, rfl, rfl⟩ | ⟨_, hno, _⟩)
  · have h := open_is hf hst (by omega) hdn hfi hop hn0 hsc
    refine .inl ⟨bs, bm, m, nb, T, num, f2, bk, rfl, ⟨⟨hf2, h.down, h.st.symm, hms, h.si, ?_⟩, h.num, hl2, h.st, h.er, h.pr, h.no⟩, rfl⟩
    have := hcap _ _ _ _ h.si
    rw [hl2]
    simpa [plain] using this
  · obtain ⟨hE, h1, h2⟩ := Zn4 hf hst (by omega) hdn hfi hbk hsb
    have hr := hE.res.resolve_left fun h => hne h.1
    refine .inr ⟨_, by rw [hr.1], ⟨hE.ok, hr.2, h1, ⟨bk, hbk, h2⟩, hE.len, hE.st, hE.er, hE.pr, fun h => hne (hE.no h).1⟩, rfl⟩
  · obtain ⟨q, hq, h⟩ := hsp
    have := hno q hq
    rw [Zn2 hq h] at this; cases this
end Iv
namespace Iv
def Zgs (V : Yb) (key : Nat) (c len : Nat) : Prop := V key = none ∧ c ≤ len
structure PutF (f : Fl) (k : Nat) (f2 : Fl) : Prop where
  ok : f2.Ok
  len : f2.b.length = f.b.length
  st : f2.st = f.st
  er : f2.er ≤ f.er + 1
  pr : f2.pr ≤ f.pr + 24 * k + 24
  no : f.left = -1 → f2.left = -1
structure PutT (f : Fl) (num : Nat) (V : Yb) (key : Nat) (vs : List Nat) (f2 : Fl) : Prop where
  dn : f2.down = true
  no : f.left ≠ -1
  fi : ∃ V', (V' = V ∨ V' = Zat V key (num + 1) vs) ∧ FI f2.b (num + 1) V'
  sp : ∃ q, q < f.b.length / 256 ∧ Vc f2.b q
theorem StOk.pgetV {f : Fl} {id : Nat} {m : List (ME He)} {nb : Nat} {T : List HL} {num fb : Nat} {V : Yb} (h : StOk f id m nb T num fb V) (k : Nat) : Yv k (plain m) = none ↔ V k = none := by
  constructor
  · exact h.si.no k
  · intro hv
    cases e : Yv k (plain m) with
    | none => rfl
    | some x => have := (h.si.so k x e).2.2; rw [hv] at this; cases this
theorem PutG_ok (f : Fl) (bs bf : Nat) (rb : Option Nat) (cb : Nat) (rp : Option Nat) (cp : Nat) (id bm num fb : Nat) (m : List (ME He)) (nb : Nat) (T : List HL) (V : Yb) (hst : StOk f id m nb T num fb V) (S : List Nat) (w0 : World) (hown : Own w0 S w0 (.blk bs [.bool true, .pointer (some ⟨bf, 0, none⟩), natV id, .map (some bm), .int .u32 ((num : Nat) : Int), .int .i64 ((fb : Nat) : Int)] 138 :: .obj bm (Xo HV m nb) :: (FlH bf rb cb rp cp f ++ T))) (hpr : f.pr + 100000 < 4611686018427387904) (her : f.er + 1 < 4611686018427387904) (hnum : num + 1 < 4294967296) (key : Nat) (hkey : key ≤ 999) (vs : List Nat) (hvs : ∀ z ∈ vs, z < 256) (hv16 : vs.length ≤ 16) (a : Option Addr) (ca : Nat) (hsl : OldSl w0 S a vs.length 1 (vs.map u8V)) :
    Sp Tryz.prog 182 [.pointer (some ⟨bs, 0, none⟩), natV key, .slice a vs.length ca] w0 S (fun v L =>
      (Zgs V key (10 * (f.b.length / 256 - 2)) m.length ∧ v = .int .i64 5 ∧ L = (.blk bs [.bool true, .pointer (some ⟨bf, 0, none⟩), natV id, .map (some bm), .int .u32 ((num : Nat) : Int), .int .i64 ((fb : Nat) : Int)] 138 :: .obj bm (Xo HV m nb) :: (FlH bf rb cb rp cp f ++ T))) ∨
      (¬ Zgs V key (10 * (f.b.length / 256 - 2)) m.length ∧ ∃ (f2 : Fl) (m2 : List (ME He)) (nb2 fb2 : Nat) (T2 : List HL), v = .int .i64 0 ∧ PutF f m.length f2 ∧ StOk f2 id m2 nb2 T2 (num + 1) fb2 (Zat V key (num + 1) vs) ∧ (∀ y ∈ T, y ∈ T2) ∧ L = (.blk bs [.bool true, .pointer (some ⟨bf, 0, none⟩), natV id, .map (some bm), .int .u32 (((num + 1) : Nat) : Int), .int .i64 ((fb2 : Nat) : Int)] 138 :: .obj bm (Xo HV m2 nb2) :: (FlH bf rb cb rp cp f2 ++ T2))) ∨
      (¬ Zgs V key (10 * (f.b.length / 256 - 2)) m.length ∧ ∃ (f2 : Fl) (m2 : List (ME He)) (nb2 fb2 num2 id2 : Nat) (T2 : List HL), v = .int .i64 9 ∧ PutF f m.length f2 ∧ PutT f num V key vs f2 ∧ (∀ y ∈ T, y ∈ T2) ∧ L = (.blk bs [.bool true, .pointer (some ⟨bf, 0, none⟩), natV id2, .map (some bm), .int .u32 ((num2 : Nat) : Int), .int .i64 ((fb2 : Nat) : Int)] 138 :: .obj bm (Xo HV m2 nb2) :: (FlH bf rb cb rp cp f2 ++ T2)))) := by
  have hbl := hst.ok.hi
  have hcap := hst.cap
  have hpml : (plain m).length = m.length := by simp [plain]
  have hfull : Full (plain m) (f.b.length / 256) key ↔ Zgs V key (10 * (f.b.length / 256 - 2)) m.length := by
    unfold Full Zgs; rw [hst.pgetV, hpml]
  refine (Put_ok f hst.ok bs bf rb cb rp cp id bm num fb m nb T hst.ms S w0 hown (by omega) hst.si.hfb (fun x hx => ?_) (by omega) her hnum key hkey vs hvs hv16 a ca hsl).mono ?_
  · have hmem : x.v.en ∈ plain m := List.mem_map_of_mem hx
    exact (hst.si.so _ _ (Vx hst.si.nd hmem)).1.bk
  · rintro v L (⟨h, _⟩ | ⟨_, h, rfl, rfl⟩ | ⟨_, h, e, f2, m2, nb2, fb2, num2, id2, T2, rfl, hgo, hms2, hT, hf2, hl2, hp2, rfl⟩)
    · exact absurd hst.ready h
    · exact .inl ⟨hfull.1 h, rfl, rfl⟩
    · have hp := put_is hst.ok hst.dn hst.si (by rw [hpml]; exact hcap) (by rw [hpml]; omega) her ⟨hkey, hnum, hv16, hvs⟩ hgo
      have hF : PutF f m.length f2 := ⟨hp.ok, hp.len, hp.st, hp.er, hp2, fun h => (hp.no h).2⟩
      have hnf : ¬ Zgs V key (10 * (f.b.length / 256 - 2)) m.length := fun h2 => h (hfull.2 h2)
      have hpml2 : (plain m2).length = m2.length := by simp [plain]
      rcases hp.res with ⟨r1, r2, r3, r4, r5, r6, r7⟩ | ⟨r1, r2, V', r3, r4, r5⟩
      · subst r1 r3 r4
        refine .inr (.inl ⟨hnf, f2, m2, nb2, fb2, T2, rfl, hF, ⟨hp.ok, r2, by rw [hp.st]; exact hst.hid, hms2, r5, ?_⟩, hT, rfl⟩)
        rw [hp.len]
        cases e : Yv key (plain m) with
        | none =>
          have h6 := r6 e
          have : ¬ 10 * (f.b.length / 256 - 2) ≤ m.length := fun h2 => hnf ⟨(hst.pgetV key).1 e, h2⟩
          omega
        | some x => have h7 := r7 x e; omega
      · subst r1
        exact .inr (.inr ⟨hnf, f2, m2, nb2, fb2, num2, id2, T2, rfl, hF, ⟨r2, fun h => absurd (hp.no h).1 (by decide), ⟨V', r3, r4⟩, r5⟩, hT, rfl⟩)
theorem Zgt (c : Nat) : CapV (fun _ => none) c := fun b P n fb h => by
  cases P with
  | nil => exact Nat.zero_le _
  | cons x l => have := (h.so x.key x (Vx h.nd List.mem_cons_self)).2.2; cases this
end Iv
namespace Iv
section
variable {dm : List Deferred} {P : Program} {n : Nat} {e : Env} {w0 : World} {S : List Nat} {l : List HL} {dst : Option Tmp} {ty : TypeId} {pos : String} {aft : Array Edge} {gd : Option (Nat × Bool)} {x y : Operand} {t ty' : TypeId}
end
def NoP (w : World) (p : Option Addr) : Prop := p = none ∨ ∃ ad cs, p = some ad ∧ Cells w ad (.bool false :: cs)
theorem NoP.at {w0 w : World} {l : List HL} {p : Option Addr} (h : NoP w0 p) (ho : Own w0 [] w l) : NoP w p := by
  rcases h with h | ⟨ad, cs, h1, h2⟩
  · exact .inl h
  · exact .inr ⟨ad, cs, h1, h2.at ho⟩
end Iv
namespace Iv
end Iv
end Go.Proofs.YthcbcdjkfefnlaaGreatDoor
