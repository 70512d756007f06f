import Derived.Test.YthcbcdjkfefnlaaSb
import Derived.Test.YthcbcdjkfefnlaaGw
/- The walks of write, Put, Get, Room and of the example. -/
set_option linter.unusedSimpArgs false
set_option linter.unusedVariables false
set_option linter.unnecessarySimpa false
set_option autoImplicit false
set_option linter.unusedVariables false
namespace Go.Proofs.Ythcbcdjkfefnlaa
open Go.Gv
open Go.RowKit
namespace Iv
theorem rowOut {w0 w : World} {S : List Nat} {l : List HL} (ho : Own w0 S w l) (i : Nat) (ic : List Nat) {E : TypeId} {sz : Nat} {r : Option Nat} {m cap : Nat} {xs : List Value} (hi : l[i]? = some (.row E sz r m cap xs)) (hn : i ∉ ic) : OldSl w ((pick ic l).filterMap HL.block) (rowA r) m sz xs := by
  have h := ho.rowSl i hi
  refine ⟨h.len, h.isSome, h.cells, fun hm hb => ?_⟩
  have h2 := h.isSome hm
  cases r with
  | none => cases h2
  | some g =>
    obtain ⟨y, hy, hyb⟩ := List.mem_filterMap.1 hb
    simp only [pick, List.mem_filterMap] at hy
    obtain ⟨j, hj, hjy⟩ := hy
    have := nodup_inj ho.nodup hi hjy (b := g) rfl hyb
    subst this
    exact hn hj
theorem flFails_st (f : Fl) : (flFails f).st = f.st ∧ (flFails f).pr = f.pr ∧ (flFails f).er = f.er := by
  unfold flFails
  split
  · exact ⟨rfl, rfl, rfl⟩
  · split <;> exact ⟨rfl, rfl, rfl⟩
theorem flFails_left {f : Fl} (h0 : -1 ≤ f.left) (h1 : f.left ≤ 9223372036854775807) : -1 ≤ (flFails f).left ∧ (flFails f).left ≤ 9223372036854775807 := by
  unfold flFails
  split
  · exact ⟨h0, h1⟩
  · split
    · exact ⟨by simp only; omega, by simp only; omega⟩
    · exact ⟨h0, h1⟩
theorem flFails_no {f : Fl} (h : f.left = -1) : (flFails f).left = -1 ∧ (flFails f).down = false := by
  unfold flFails
  rw [if_neg (by omega), if_neg (by omega)]
  exact ⟨h, rfl⟩
theorem prog_ok {f : Fl} (hf : f.Ok) (hp : f.pr + 1 < 4611686018427387904) {u : Nat} (hu : u < 256) (at_ : Int) : (flProg f at_ u).1.Ok ∧ (flProg f at_ u).1.pr ≤ f.pr + 1 ∧ (flProg f at_ u).1.b.length = f.b.length ∧ (flProg f at_ u).1.picks.length = f.picks.length ∧ (flProg f at_ u).1.st = f.st := by
  unfold flProg
  split
  · exact ⟨hf, Nat.le_succ _, rfl, rfl, rfl⟩
  · obtain ⟨s1, s2, s3⟩ := flFails_st { f with pr := f.pr + 1 }
    obtain ⟨l0, l1⟩ := flFails_left (f := { f with pr := f.pr + 1 }) hf.l0 hf.l1
    have hpk := flFails_picks { f with pr := f.pr + 1 }
    have hst := hf.st
    have her := hf.er
    have hgb := gB_lt hf.bs at_.toNat
    have hgp := gB_lt hf.ps 0
    unfold flProg1
    split
    · refine ⟨⟨set_lt hf.bs (Nat.lt_of_le_of_lt Nat.and_le_left hgb), by rw [hpk]; exact hf.ps, by simp only [List.length_set]; exact hf.len, by simp only [List.length_set]; exact hf.lo, by simp only [List.length_set]; exact hf.hi, by rw [hpk]; exact hf.pl, ?_, ?_, ?_, l0, l1⟩, ?_, by simp only [List.length_set], by rw [hpk], s1⟩
      · simp only [s2]; exact hp
      · simp only [s3]; exact her
      · simp only [s1]; exact hst
      · simp only [s2]; exact Nat.le_refl _
    · refine ⟨⟨set_lt hf.bs (Nat.lt_of_le_of_lt Nat.and_le_left hgb), by rw [hpk]; exact hf.ps, by simp only [List.length_set]; exact hf.len, by simp only [List.length_set]; exact hf.lo, by simp only [List.length_set]; exact hf.hi, by rw [hpk]; exact hf.pl, ?_, ?_, ?_, l0, l1⟩, ?_, by simp only [List.length_set], by rw [hpk], s1⟩
      · simp only [s2]; exact hp
      · simp only [s3]; exact her
      · simp only [s1]; exact hst
      · simp only [s2]; exact Nat.le_refl _
/-- no loss of power -/
theorem prog_no {f : Fl} (hl : f.left = -1) (hd : f.down = false) {k u : Nat} (hk : k < f.b.length) : (flProg f (k : Int) u).2 = 0 ∧ (flProg f (k : Int) u).1.left = -1 ∧ (flProg f (k : Int) u).1.down = false ∧ (flProg f (k : Int) u).1.b = f.b.set k (gB f.b k &&& u) := by
  have hb : flBegins f (k : Int) f.b.length = 0 := by unfold flBegins; rw [if_neg (by omega), if_neg (by omega), if_neg (by rw [hd]; decide)]
  obtain ⟨n1, n2⟩ := flFails_no (f := { f with pr := f.pr + 1 }) hl
  unfold flProg
  rw [if_neg (by rw [hb]; decide), Int.toNat_natCast]
  unfold flProg1
  rw [if_pos (by rw [n2]; rfl)]
  exact ⟨rfl, n1, n2, rfl⟩
def wrStep (o : Nat) (bs : List Nat) (s : Fl × Int) (i : Nat) : Fl × Int := if s.2 ≠ 0 then s else if gB bs i = 255 then s else flProg s.1 ((o + i : Nat) : Int) (gB bs i)
def wrTo (f : Fl) (o : Nat) (bs : List Nat) (k : Nat) : Fl × Int := (List.range k).foldl (wrStep o bs) (f, 0)
def writeP (f : Fl) (o : Nat) (bs : List Nat) : Fl × Int := wrTo f o bs bs.length
theorem wr_succ (f : Fl) (o : Nat) (bs : List Nat) (k : Nat) : wrTo f o bs (k + 1) = wrStep o bs (wrTo f o bs k) k := by unfold wrTo; rw [List.range_succ, List.foldl_append]; rfl
theorem wr_stay {f : Fl} {o : Nat} {bs : List Nat} {k : Nat} (h : (wrTo f o bs k).2 ≠ 0) : ∀ q, wrTo f o bs (k + q) = wrTo f o bs k
  | 0 => rfl
  | q + 1 => by
    rw [show k + (q + 1) = k + q + 1 by omega, wr_succ, wr_stay h q]
    unfold wrStep
    rw [if_pos h]
/-- a write without loss of power -/
theorem wr_no {f : Fl} (hl : f.left = -1) (hd : f.down = false) {o : Nat} {bs : List Nat} : ∀ k, o + k ≤ f.b.length → (wrTo f o bs k).2 = 0 ∧ (wrTo f o bs k).1.left = -1 ∧ (wrTo f o bs k).1.down = false ∧ (wrTo f o bs k).1.b.length = f.b.length
  | 0, _ => ⟨rfl, hl, hd, rfl⟩
  | k + 1, h => by
    obtain ⟨a, b, c, d⟩ := wr_no hl hd (o := o) (bs := bs) k (by omega)
    rw [wr_succ]
    unfold wrStep
    rw [if_neg (by rw [a]; decide)]
    split
    · exact ⟨a, b, c, d⟩
    · obtain ⟨e1, e2, e3, e4⟩ := prog_no (f := (wrTo f o bs k).1) b c (k := o + k) (u := gB bs k) (by omega)
      exact ⟨e1, e2, e3, by rw [e4, List.length_set, d]⟩
theorem wr_ok {f : Fl} (hf : f.Ok) {o : Nat} {bs : List Nat} (hb : ∀ z ∈ bs, z < 256) : ∀ k, f.pr + k < 4611686018427387904 → (wrTo f o bs k).1.Ok ∧ (wrTo f o bs k).1.pr ≤ f.pr + k ∧ (wrTo f o bs k).1.b.length = f.b.length ∧ (wrTo f o bs k).1.picks.length = f.picks.length ∧ (wrTo f o bs k).1.st = f.st
  | 0, _ => ⟨hf, Nat.le_refl _, rfl, rfl, rfl⟩
  | k + 1, h => by
    obtain ⟨a, b, c, d, e⟩ := wr_ok hf (o := o) hb k (by omega)
    rw [wr_succ]
    unfold wrStep
    split
    · exact ⟨a, by omega, c, d, e⟩
    · split
      · exact ⟨a, by omega, c, d, e⟩
      · obtain ⟨p1, p2, p3, p4, p5⟩ := prog_ok a (by omega) (gB_lt hb k) ((o + k : Nat) : Int)
        exact ⟨p1, by omega, by rw [p3, c], by rw [p4, d], by rw [p5, e]⟩
end Iv
end Go.Proofs.Ythcbcdjkfefnlaa

set_option autoImplicit false
set_option linter.unusedVariables false
namespace Go.Proofs.Ythcbcdjkfefnlaa
open Go.Gv
open Go.RowKit
open Iv
set_option maxRecDepth 100000 in
set_option maxHeartbeats 1000000 in
theorem write_ok (f : Fl) (hf : f.Ok) (bs bf : Nat) (rb : Option Nat) (cb : Nat) (rp : Option Nat) (cp : Nat) (id bm num : Nat) (free : Int) (S : List Nat) (w0 : World) (hown : Own w0 S w0 (.blk bs [.bool true, .pointer (some ⟨bf, 0, none⟩), natV id, .map (some bm), .int .u32 (num : Nat), .int .i64 free] 81 :: FlH bf rb cb rp cp f)) (hpr : f.pr + 24 < 4611686018427387904) (bk sl : Nat) (hbk : bk < 64) (hsl10 : sl < 10) (zs : List Nat) (hzs : ∀ z ∈ zs, z < 256) (hz24 : zs.length = 24) (a : Option Addr) (ca : Nat) (hsl : OldSl w0 S a 24 1 (zs.map u8V)) : Sp Try.prog 51 [.pointer (some ⟨bs, 0, none⟩), .agg #[natV bk, natV sl], .slice a 24 ca] w0 S (fun v L => v = .int .i64 (writeP f (bk * 256 + sl * 24) zs).2 ∧ L = .blk bs [.bool true, .pointer (some ⟨bf, 0, none⟩), natV id, .map (some bm), .int .u32 (num : Nat), .int .i64 free] 81 :: FlH bf rb cb rp cp (writeP f (bk * 256 + sl * 24) zs).1) := by
  have hbl := hf.hi
  refine spec_enter Try.func51 rfl Try.ntmps51 rfl hown ?_
  simp only [argEnv]
  refine gc_seq ?_
  refine gc_region ?_
  refine gl_op (op_box rfl rfl rfl (fun b4 => ?_))
  refine gl_op (op_rd rfl (rd_assign rfl) ?_)
  refine gl_nil ?_
  refine gx_then ?_
  refine gc_seq ?_
  refine gc_seq ?_
  refine gc_region ?_
  refine gl_op (op_rd rfl (rd_move rfl) ?_)
  refine gl_op (op_rd rfl (rd_lenSlice Try.underlying36 rfl) ?_)
  refine gl_op (op_rd rfl (rd_move rfl) ?_)
  refine gl_nil ?_
  refine gx_then ?_
  refine gc_block ?_
  refine gc_loopF (ι := Nat × Fl) [(0, _), (4, _), (10, _), (11, _)] [_, _] (fun j => j.1 ≤ 24 ∧ wrTo f (bk * 256 + sl * 24) zs j.1 = (j.2, 0)) (fun j Fr0 => ((12, natV j.1) :: Fr0)) (fun j Fr0 => (.blk bf (j.2.cells rb cb rp cp) 72 :: .row 5 1 rb j.2.b.length cb (j.2.b.map u8V) :: .row 5 1 rp j.2.picks.length cp (j.2.picks.map u8V) :: Fr0)) (fun j => 24 - j.1) (0, f) (⟨Nat.zero_le _, rfl⟩) ⟨rfl, rfl, rfl, rfl, rfl, trivial⟩ ⟨[2, 3, 4, 0, 1], by decide, rfl⟩ ?_
  rintro ⟨j, g⟩ ⟨hj, hwr⟩
  simp only at hj hwr ⊢
  obtain ⟨hg, hgp, hgl, _, _⟩ := wr_ok hf (o := bk * 256 + sl * 24) hzs j (by omega)
  rw [hwr] at hg hgp hgl
  simp only at hg hgp hgl
  refine gc_seq ?_
  refine gc_region ?_
  refine gl_op (op_rd rfl (rd_lss rfl rfl) (gk_dec (fun h13 => ?_) (fun h13 => ?_)))
  · skip
    refine gl_nil ?_
    refine gx_then ?_
    refine gc_seq ?_
    refine gc_cond_t rfl ?_
    refine gc_skip ?_
    refine gx_then ?_
    refine gc_seq ?_
    refine gc_block ?_
    refine gc_seq ?_
    refine gc_region ?_
    refine gl_op (op_rd rfl (rd_move rfl) ?_)
    refine gl_op (op_rd rfl (rd_indexOld1 hsl Try.underlying36 ty_5 rfl rfl (by omega) (by omega)) ?_)
    refine gl_op (op_rd rfl (rd_load Try.underlying5 rfl rfl (ld_slN hsl (get_u8n (gB_get (show j < zs.length by omega))))) ?_)
    refine gl_op (op_rd rfl (rd_assign rfl) ?_)
    refine gl_op (op_rd rfl (rd_assign rfl) ?_)
    refine gl_nil ?_
    refine gx_then ?_
    refine gc_seq ?_
    refine gc_seq ?_
    refine gc_region ?_
    refine gl_op (op_rd rfl (rd_move rfl) ?_)
    refine gl_op (op_rd rfl (rd_eql rfl rfl) (gk_dec (fun h18 => ?_) (fun h18 => ?_)))
    · skip
      have h18n : gB zs j = 255 := by omega
      refine gl_nil ?_
      refine gx_then ?_
      refine gc_cond_t rfl ?_
      refine gc_exit ?_
      refine gx_then_exit ?_
      refine gx_block_exit ?_
      refine gx_then ?_
      refine gc_region ?_
      refine gl_op (op_rd rfl (by first | exact rd_addN (b := 1) rfl rfl (by omega) | exact rd_add rfl rfl (by omega) (by omega)) ?_)
      refine gl_op (op_rd rfl (rd_move rfl) ?_)
      refine gl_nil ?_
      refine gx_then ?_
      exact gx_cut ((j + 1, g)) ⟨⟨by simp only; omega, by simp only; rw [wr_succ, hwr]; unfold wrStep; rw [if_neg (fun h => h rfl), if_pos h18n]⟩, by simp only; omega⟩ ⟨rfl, rfl, rfl, rfl, rfl, trivial⟩ ⟨[0, 1, 2, 3, 4], by decide, rfl⟩
    · skip
      have h18n : ¬ gB zs j = 255 := by omega
      have hstep : wrTo f (bk * 256 + sl * 24) zs (j + 1) = flProg g ((bk * 256 + sl * 24 + j : Nat) : Int) (gB zs j) := by rw [wr_succ, hwr]; unfold wrStep; rw [if_neg (fun h => h rfl), if_neg h18n]
      refine gl_nil ?_
      refine gx_then ?_
      refine gc_cond_f rfl ?_
      refine gc_skip ?_
      refine gx_then ?_
      refine gc_seq ?_
      refine gc_drawP [3, 4] true 15 rfl ?_
      refine ga_first 0 #[true, false, false, false, false, false, false, false, false, false, false, false, false, false, false, false] rfl rfl rfl rfl (by kernel_rfl) rfl ⟨[3, 4], by decide, rfl⟩ (qt_rd (rd_move rfl)) ?_
      refine ga_first 1 #[true, true, false, false, false, false, false, false, false, false, false, false, false, false, false, false] rfl rfl rfl rfl (by kernel_rfl) rfl ⟨[3, 4], by decide, rfl⟩ (qt_rd (rd_nilCheck rfl)) ?_
      refine ga_first 2 #[true, true, true, false, false, false, false, false, false, false, false, false, false, false, false, false] rfl rfl rfl rfl (by kernel_rfl) rfl ⟨[3, 4], by decide, rfl⟩ (qt_rd (rd_fieldAddr rfl (fa_81_1 _))) ?_
      refine ga_first 3 #[true, true, true, true, false, false, false, false, false, false, false, false, false, false, false, false] rfl rfl rfl rfl (by kernel_rfl) rfl ⟨[3, 4], by decide, rfl⟩ (qt_rd (rd_load Try.underlying25 rfl rfl (by first | exact ld_blk 0 rfl rfl | exact ld_blk 1 rfl rfl | exact ld_old (by assumption) (by simp) | exact ld_cells (by assumption) (by simp) rfl))) ?_
      refine ga_first 4 #[true, true, true, true, true, false, false, false, false, false, false, false, false, false, false, false] rfl rfl rfl rfl (by kernel_rfl) rfl ⟨[3, 4], by decide, rfl⟩ (qt_rd (rd_fieldAddr rfl (fa_94_0 _))) ?_
      refine ga_first 5 #[true, true, true, true, true, true, false, false, false, false, false, false, false, false, false, false] rfl rfl rfl rfl (by kernel_rfl) rfl ⟨[3, 4], by decide, rfl⟩ (qt_rd (rd_load Try.underlying3 rfl rfl (by first | exact ld_blk 0 rfl rfl | exact ld_blk 1 rfl rfl | exact ld_slN (by assumption) (get_nats (by omega)) | exact ld_slN (by assumption) (get_ints (by omega)) | exact ld_old (by assumption) (by simp) | exact ld_cells (by assumption) (by simp) rfl))) ?_
      refine ga_first 6 #[true, true, true, true, true, true, true, false, false, false, false, false, false, false, false, false] rfl rfl rfl rfl (by kernel_rfl) rfl ⟨[3, 4], by decide, rfl⟩ (qt_rd (by first | exact rd_mulN (b := 256) rfl rfl (by omega) | exact rd_mul rfl rfl (by omega) (by omega))) ?_
      refine ga_first 7 #[true, true, true, true, true, true, true, true, false, false, false, false, false, false, false, false] rfl rfl rfl rfl (by kernel_rfl) rfl ⟨[3, 4], by decide, rfl⟩ (qt_rd (rd_fieldAddr rfl (fa_94_1 _))) ?_
      refine ga_first 8 #[true, true, true, true, true, true, true, true, true, false, false, false, false, false, false, false] rfl rfl rfl rfl (by kernel_rfl) rfl ⟨[3, 4], by decide, rfl⟩ (qt_rd (rd_load Try.underlying3 rfl rfl (by first | exact ld_blk 0 rfl rfl | exact ld_blk 1 rfl rfl | exact ld_slN (by assumption) (get_nats (by omega)) | exact ld_slN (by assumption) (get_ints (by omega)) | exact ld_old (by assumption) (by simp) | exact ld_cells (by assumption) (by simp) rfl))) ?_
      refine ga_first 9 #[true, true, true, true, true, true, true, true, true, true, false, false, false, false, false, false] rfl rfl rfl rfl (by kernel_rfl) rfl ⟨[3, 4], by decide, rfl⟩ (qt_rd (by first | exact rd_mulN (b := 24) rfl rfl (by omega) | exact rd_mul rfl rfl (by omega) (by omega))) ?_
      refine ga_first 10 #[true, true, true, true, true, true, true, true, true, true, true, false, false, false, false, false] rfl rfl rfl rfl (by kernel_rfl) rfl ⟨[3, 4], by decide, rfl⟩ (qt_rd (by first | exact rd_addN rfl rfl (by omega) | exact rd_add rfl rfl (by omega) (by omega))) ?_
      refine ga_first 11 #[true, true, true, true, true, true, true, true, true, true, true, true, false, false, false, false] rfl rfl rfl rfl (by kernel_rfl) rfl ⟨[3, 4], by decide, rfl⟩ (qt_rd (rd_move rfl)) ?_
      refine ga_first 12 #[true, true, true, true, true, true, true, true, true, true, true, true, true, false, false, false] rfl rfl rfl rfl (by kernel_rfl) rfl ⟨[3, 4], by decide, rfl⟩ (qt_rd (by first | exact rd_addN rfl rfl (by omega) | exact rd_add rfl rfl (by omega) (by omega))) ?_
      refine ga_first 13 #[true, true, true, true, true, true, true, true, true, true, true, true, true, true, false, false] rfl rfl rfl rfl (by kernel_rfl) rfl ⟨[3, 4], by decide, rfl⟩ (qt_rd (rd_move rfl)) ?_
      refine ga_only 14 #[true, true, true, true, true, true, true, true, true, true, true, true, true, true, true, false] rfl rfl (by kernel_rfl) rfl (.inr ⟨[3, 4], by decide, rfl⟩) (op_callM [0, 1, 2] [3, 4] rfl (vf := []) (vc := []) rfl rfl Try.call25 (by decide) rfl (fun w how hc => Program_ok g hg bf rb cb rp cp _ w hc ((bk * 256 + sl * 24 + j : Nat) : Int) (gB zs j) (gB_lt hzs j)) ?_)
      rintro _ _ ⟨rfl, rfl⟩
      refine ga_first 15 #[true, true, true, true, true, true, true, true, true, true, true, true, true, true, true, true] rfl rfl rfl rfl (by kernel_rfl) rfl ⟨[3, 4], by decide, rfl⟩ (qt_rd (rd_assign rfl)) ?_
      refine ga_end (by kernel_rfl) (.inr ⟨[3, 4], by decide, rfl⟩) ?_
      refine gx_then ?_
      refine gc_seq ?_
      refine gc_region ?_
      refine gl_op (op_rd rfl (rd_move rfl) ?_)
      refine gl_op (op_rd rfl (rd_neq rfl rfl) (gk_dec (fun h35 => ?_) (fun h35 => ?_)))
      · skip
        refine gl_nil ?_
        refine gx_then ?_
        refine gc_cond_t rfl ?_
        refine gc_seq ?_
        refine gc_region ?_
        refine gl_op (op_rd rfl (rd_move rfl) ?_)
        refine gl_op (op_rd rfl (rd_assign rfl) ?_)
        refine gl_nil ?_
        refine gx_then ?_
        refine gc_ret ?_
        refine gx_block_ret ?_
        refine gx_then_ret ?_
        refine gx_then_ret ?_
        refine gx_block_ret ?_
        refine gx_then_ret ?_
        refine gx_ret1 (.inl rfl) Try.results51 rfl [4, 0, 1, 2] (by decide) ?_
        have hw : writeP f (bk * 256 + sl * 24) zs = flProg g ((bk * 256 + sl * 24 + j : Nat) : Int) (gB zs j) := by
          have h := wr_stay (f := f) (o := bk * 256 + sl * 24) (bs := zs) (k := j + 1) (by rw [hstep]; exact h35) (zs.length - (j + 1))
          rw [show j + 1 + (zs.length - (j + 1)) = zs.length by omega] at h
          unfold writeP
          rw [h, hstep]
        rw [hw]
        exact ⟨rfl, rfl⟩
      · skip
        refine gl_nil ?_
        refine gx_then ?_
        refine gc_cond_f rfl ?_
        refine gc_skip ?_
        refine gx_block ?_
        refine gx_then ?_
        refine gc_region ?_
        refine gl_op (op_rd rfl (by first | exact rd_addN (b := 1) rfl rfl (by omega) | exact rd_add rfl rfl (by omega) (by omega)) ?_)
        refine gl_op (op_rd rfl (rd_move rfl) ?_)
        refine gl_nil ?_
        refine gx_then ?_
        exact gx_cut ((j + 1, (flProg g ((bk * 256 + sl * 24 + j : Nat) : Int) (gB zs j)).1)) ⟨⟨by simp only; omega, by simp only; rw [hstep]; exact Prod.ext rfl (by simp only; omega)⟩, by simp only; omega⟩ ⟨rfl, rfl, rfl, rfl, rfl, trivial⟩ ⟨[0, 1, 2, 3, 4], by decide, rfl⟩
  · skip
    refine gl_nil ?_
    refine gx_then ?_
    refine gc_seq ?_
    refine gc_cond_f rfl ?_
    refine gc_exit ?_
    refine gx_then_exit ?_
    refine gx_then_exit ?_
    refine gx_block_exit ?_
    refine gx_then ?_
    refine gc_seq ?_
    refine gc_region ?_
    refine gl_op (op_rd rfl (rd_assign rfl) ?_)
    refine gl_nil ?_
    refine gx_then ?_
    refine gc_ret ?_
    refine gx_ret1 (.inl rfl) Try.results51 rfl [4, 0, 1, 2] (by decide) ?_
    have hw : writeP f (bk * 256 + sl * 24) zs = (g, 0) := by unfold writeP; rw [← hwr, show j = zs.length by omega]
    rw [hw]
    exact ⟨rfl, rfl⟩

end Go.Proofs.Ythcbcdjkfefnlaa

set_option autoImplicit false
set_option linter.unusedVariables false
namespace Go.Proofs.Ythcbcdjkfefnlaa
open Go.Gv
open Go.RowKit
open Iv
namespace Iv
section
variable {P : Program} {n : Nat} {e : Env} {w0 : World} {S : List Nat} {l : List HL} {dst : Option Tmp} {ty : TypeId} {pos : String} {aft : Array Edge} {gd : Option (Nat × Bool)} {x y : Operand} {t ty' : TypeId}
theorem rd_lenMap (j : Nat) {kt et : TypeId} {b : Nat} {es : List MapEntry} {nb : Nat} (hj : l[j]? = some (.obj b (.map es.toArray nb))) (hu : P.underlying t = some (.map kt et)) (hx : e.ev x = some (.map (some b))) :
    Rd P n e w0 S l ⟨dst, .call { callee := .builtin .len, args := #[x], argTypes := #[t] }, ty, pos, aft, gd⟩ (natV es.length) :=
  fun a w hs ho => by
    have hb : w.heap[b]? = some (.map es.toArray nb) := ho.holds _ (List.mem_of_getElem? hj)
    have h1 := MapKept.run_getObj_map (P := P) hb
    simp [execOp, resolve, invoke, builtin, hs.ev hx, Builtin.len_, run_underlying hu, h1, goInt]
theorem rd_add32 {a b : Nat} (hx : e.ev x = some (.int .u32 a)) (hy : e.ev y = some (.int .u32 b)) (h : a + b < 4294967296) : Rd P n e w0 S l ⟨dst, .binOp .add t x y ty', ty, pos, aft, gd⟩ (.int .u32 ((a + b : Nat) : Int)) := by
  have h1 := rd_addk (P := P) (n := n) (w0 := w0) (S := S) (l := l) (dst := dst) (ty := ty) (pos := pos) (aft := aft) (gd := gd) (t := t) (ty' := ty') hx hy
  rwa [show ((a : Int) + (b : Int)) = ((a + b : Nat) : Int) by push_cast; rfl, wrap_u32_nat h] at h1
end
theorem pack_lt {key num : Nat} (hk : key < 65536) {vs : List Nat} (hvs : ∀ z ∈ vs, z < 256) (hv : vs.length ≤ 16) : ∀ z ∈ packP key num vs, z < 256 := by
  unfold packP
  have h3 := pk3_lt (pk2_lt num (pk1_lt key vs.length hk) 4) hvs
  have hz := zeros_le ((pk3 vs (pk2 num (pk1 key vs.length) 4)).take 23)
  rw [List.length_take, pk3_len (by rw [pk2_len, pk1_len]) hv] at hz
  exact set_lt h3 (by omega)
end Iv

set_option maxRecDepth 100000 in
set_option maxHeartbeats 1000000 in
theorem Put_arg (bs : Nat) (cs : List Value) (w0 : World) (hs : Cells w0 ⟨bs, 0, none⟩ (.bool true :: cs)) (key : Int) (a : Option Addr) (m c : Nat) (hbad : key < 0 ∨ 999 < key ∨ 16 < m) : Sp Try.prog 17 [.pointer (some ⟨bs, 0, none⟩), .int .i64 key, .slice a m c] w0 [] (RV (.int .i64 2)) := by
  refine spec_enter Try.func17 rfl Try.ntmps17 rfl (Own.refl _) ?_
  simp only [argEnv]
  refine gc_seq ?_
  refine gc_region ?_
  refine gl_op (op_rd rfl (rd_assign rfl) ?_)
  refine gl_nil ?_
  refine gx_then ?_
  refine gc_seq ?_
  refine gc_seq ?_
  refine gc_region ?_
  refine gl_op (op_rd rfl (rd_move rfl) ?_)
  refine gl_op (op_rd rfl (rd_eqlNilPt eg_29 Try.underlying29 rfl rfl) ?_)
  refine gl_op (op_rd rfl (rd_move rfl) ?_)
  refine gl_yes rfl rfl (op_rd rfl (rd_move rfl) ?_)
  refine gl_yes rfl rfl (op_rd rfl (rd_nilCheck rfl) ?_)
  refine gl_yes rfl rfl (op_rd rfl (rd_fieldAddr rfl (fa_81_0 _)) ?_)
  refine gl_yes rfl rfl (op_rd rfl (rd_load Try.underlying4 rfl rfl (ld_cells (j := 0) hs (by simp) rfl)) ?_)
  refine gl_yes rfl rfl (op_rd rfl (rd_not rfl) ?_)
  refine gl_op (op_rd rfl (rd_pick_f rfl rfl) ?_)
  refine gl_nil ?_
  refine gx_then ?_
  refine gc_cond_f rfl ?_
  refine gc_skip ?_
  refine gx_then ?_
  refine gc_seq ?_
  refine gc_seq ?_
  refine gc_region ?_
  refine gl_op (op_rd rfl (rd_move rfl) ?_)
  refine gl_op (op_rd rfl (rd_lss rfl rfl) (gk_dec (fun h25 => ?_) (fun h25 => ?_)))
  · skip
    refine gl_op (op_rd rfl (rd_move rfl) ?_)
    refine gl_no rfl rfl rfl ?_
    refine gl_no rfl rfl rfl ?_
    refine gl_op (op_rd rfl (rd_pick_t rfl rfl) ?_)
    refine gl_op (op_rd rfl (rd_move rfl) ?_)
    refine gl_no rfl rfl rfl ?_
    refine gl_no rfl rfl rfl ?_
    refine gl_no rfl rfl rfl ?_
    refine gl_op (op_rd rfl (rd_pick_t rfl rfl) ?_)
    refine gl_nil ?_
    refine gx_then ?_
    refine gc_cond_t rfl ?_
    refine gc_seq ?_
    refine gc_region ?_
    refine gl_op (op_rd rfl (rd_assign rfl) ?_)
    refine gl_nil ?_
    refine gx_then ?_
    refine gc_ret ?_
    refine gx_then_ret ?_
    refine gx_ret1 (.inl rfl) Try.results17 rfl [] (by decide) ?_
    exact ⟨rfl, rfl⟩
  · skip
    refine gl_op (op_rd rfl (rd_move rfl) ?_)
    refine gl_yes rfl rfl (op_rd rfl (rd_move rfl) ?_)
    refine gl_yes rfl rfl (op_rd rfl (rd_gtr rfl rfl) (gk_dec (fun h28 => ?_) (fun h28 => ?_)))
    · skip
      refine gl_op (op_rd rfl (rd_pick_f rfl rfl) ?_)
      refine gl_op (op_rd rfl (rd_move rfl) ?_)
      refine gl_no rfl rfl rfl ?_
      refine gl_no rfl rfl rfl ?_
      refine gl_no rfl rfl rfl ?_
      refine gl_op (op_rd rfl (rd_pick_t rfl rfl) ?_)
      refine gl_nil ?_
      refine gx_then ?_
      refine gc_cond_t rfl ?_
      refine gc_seq ?_
      refine gc_region ?_
      refine gl_op (op_rd rfl (rd_assign rfl) ?_)
      refine gl_nil ?_
      refine gx_then ?_
      refine gc_ret ?_
      refine gx_then_ret ?_
      refine gx_ret1 (.inl rfl) Try.results17 rfl [] (by decide) ?_
      exact ⟨rfl, rfl⟩
    · skip
      refine gl_op (op_rd rfl (rd_pick_f rfl rfl) ?_)
      refine gl_op (op_rd rfl (rd_move rfl) ?_)
      refine gl_yes rfl rfl (op_rd rfl (rd_move rfl) ?_)
      refine gl_yes rfl rfl (op_rd rfl (rd_lenSlice Try.underlying36 rfl) ?_)
      refine gl_yes rfl rfl (op_rd rfl (rd_gtr rfl rfl) (gk_dec (fun h33 => ?_) (fun h33 => ?_)))
      · skip
        refine gl_op (op_rd rfl (rd_pick_f rfl rfl) ?_)
        refine gl_nil ?_
        refine gx_then ?_
        refine gc_cond_t rfl ?_
        refine gc_seq ?_
        refine gc_region ?_
        refine gl_op (op_rd rfl (rd_assign rfl) ?_)
        refine gl_nil ?_
        refine gx_then ?_
        refine gc_ret ?_
        refine gx_then_ret ?_
        refine gx_ret1 (.inl rfl) Try.results17 rfl [] (by decide) ?_
        exact ⟨rfl, rfl⟩
      · skip
        exfalso; omega

set_option maxRecDepth 100000 in
set_option maxHeartbeats 2000000 in
theorem Put0_ok (f : Fl) (hf : f.Ok) (bs bf : Nat) (rb : Option Nat) (cb : Nat) (rp : Option Nat) (cp : Nat) (id bm num : Nat) (free : Int) (S : List Nat) (w0 : World) (hown : Own w0 S w0 (.blk bs [.bool true, .pointer (some ⟨bf, 0, none⟩), natV id, .map (some bm), .int .u32 (num : Nat), .int .i64 free] 81 :: .obj bm (.map ([] : List MapEntry).toArray 0) :: FlH bf rb cb rp cp f)) (hpr : f.pr + 24 < 4611686018427387904) (hleft : f.left = -1) (hdn : f.down = false) (hid : id = f.st) (hnum : num + 1 < 4294967296) (hblank : f.b = List.replicate f.b.length 255) (hfree : free ≠ 0) (key : Nat) (hkey : key ≤ 999) (vs : List Nat) (hvs : ∀ z ∈ vs, z < 256) (hv0 : 0 < vs.length) (hv16 : vs.length ≤ 16) (a : Option Addr) (ca : Nat) (hsl : OldSl w0 S a vs.length 1 (vs.map u8V)) : Sp Try.prog 17 [.pointer (some ⟨bs, 0, none⟩), natV key, .slice a vs.length ca] w0 S (fun v L => ∃ gv cv : Nat, v = .int .i64 0 ∧ L = .blk bs [.bool true, .pointer (some ⟨bf, 0, none⟩), natV id, .map (some bm), .int .u32 ((num + 1 : Nat) : Int), .int .i64 free] 81 :: .obj bm (.map ([⟨natV key, .agg #[natV key, .int .u32 ((num + 1 : Nat) : Int), .slice (rowA (some gv)) vs.length cv, natV 0, natV 0], 0⟩] : List MapEntry).toArray 1) :: (FlH bf rb cb rp cp (writeP f (0 * 256 + 0 * 24) (packP key (num + 1) vs)).1 ++ [.row 5 1 (some gv) vs.length cv (vs.map u8V)])) := by
  have hbl := hf.hi
  have hbl0 := hf.lo
  obtain ⟨gb, rfl, hcb⟩ := row_some (hown.holds (.row 5 1 rb f.b.length cb (f.b.map u8V)) (by simp)) (by omega)
  have hrd : readyP f id = 0 := by unfold readyP; rw [if_neg (by rw [hdn]; decide), if_neg (by omega)]
  have hw0 : (writeP f (0 * 256 + 0 * 24) (packP key (num + 1) vs)).2 = 0 := (wr_no hleft hdn (o := 0 * 256 + 0 * 24) (bs := packP key (num + 1) vs) _ (by rw [pack_len hv16]; omega)).1
  refine spec_enter Try.func17 rfl Try.ntmps17 rfl hown ?_
  simp only [argEnv]
  refine gc_seq ?_
  refine gc_region ?_
  refine gl_op (op_rd rfl (rd_assign rfl) ?_)
  refine gl_nil ?_
  refine gx_then ?_
  refine gc_seq ?_
  refine gc_seq ?_
  refine gc_region ?_
  refine gl_op (op_rd rfl (rd_move rfl) ?_)
  refine gl_op (op_rd rfl (rd_eqlNilPt eg_29 Try.underlying29 rfl rfl) ?_)
  refine gl_op (op_rd rfl (rd_move rfl) ?_)
  refine gl_yes rfl rfl (op_rd rfl (rd_move rfl) ?_)
  refine gl_yes rfl rfl (op_rd rfl (rd_nilCheck rfl) ?_)
  refine gl_yes rfl rfl (op_rd rfl (rd_fieldAddr rfl (fa_81_0 _)) ?_)
  refine gl_yes rfl rfl (op_rd rfl (rd_load Try.underlying4 rfl rfl (by first | exact ld_blk 0 rfl rfl | exact ld_blk 2 rfl rfl | exact ld_rowN 3 rfl (get_bools (by omega)) | exact ld_rowN 4 rfl (get_bools (by omega)) | exact ld_slN (by assumption) (get_bools (by omega)) | exact ld_old (by assumption) (by simp) | exact ld_cells (by assumption) (by simp) rfl)) ?_)
  refine gl_yes rfl rfl (op_rd rfl (rd_not rfl) ?_)
  refine gl_op (op_rd rfl (rd_pick_f rfl rfl) ?_)
  refine gl_nil ?_
  refine gx_then ?_
  refine gc_cond_f rfl ?_
  refine gc_skip ?_
  refine gx_then ?_
  refine gc_seq ?_
  refine gc_seq ?_
  refine gc_region ?_
  refine gl_op (op_rd rfl (rd_move rfl) ?_)
  refine gl_op (op_rd rfl (rd_lss rfl rfl) (gk_dec (fun h25 => ?_) (fun h25 => ?_)))
  · skip
    exfalso; omega
  · skip
    refine gl_op (op_rd rfl (rd_move rfl) ?_)
    refine gl_yes rfl rfl (op_rd rfl (rd_move rfl) ?_)
    refine gl_yes rfl rfl (op_rd rfl (rd_gtr rfl rfl) (gk_dec (fun h28 => ?_) (fun h28 => ?_)))
    · skip
      exfalso; omega
    · skip
      refine gl_op (op_rd rfl (rd_pick_f rfl rfl) ?_)
      refine gl_op (op_rd rfl (rd_move rfl) ?_)
      refine gl_yes rfl rfl (op_rd rfl (rd_move rfl) ?_)
      refine gl_yes rfl rfl (op_rd rfl (rd_lenSlice Try.underlying36 rfl) ?_)
      refine gl_yes rfl rfl (op_rd rfl (rd_gtr rfl rfl) (gk_dec (fun h33 => ?_) (fun h33 => ?_)))
      · skip
        exfalso; omega
      · skip
        refine gl_op (op_rd rfl (rd_pick_f rfl rfl) ?_)
        refine gl_nil ?_
        refine gx_then ?_
        refine gc_cond_f rfl ?_
        refine gc_skip ?_
        refine gx_then ?_
        refine gc_seq ?_
        refine gc_seq ?_
        refine gc_region ?_
        refine gl_op (op_rd rfl (rd_move rfl) ?_)
        refine gl_op (op_call rfl (vf := []) (vc := []) rfl rfl Try.call41 (fun w1 ho => ready_q f hf bs bf (some gb) cb rp cp id bm num free w1 (ho.blkCells 0 rfl) (ho.blkCells 2 rfl)) ?_)
        rintro _ _ ⟨rfl, rfl⟩
        rw [hrd]
        refine gl_op (op_rd rfl (rd_assign rfl) ?_)
        refine gl_nil ?_
        refine gx_then ?_
        refine gc_seq ?_
        refine gc_region ?_
        refine gl_op (op_rd rfl (rd_move rfl) ?_)
        refine gl_op (op_rd rfl (rd_neq rfl rfl) (gk_dec (fun h38 => ?_) (fun h38 => ?_)))
        · skip
          exact absurd rfl h38
        · skip
          refine gl_nil ?_
          refine gx_then ?_
          refine gc_cond_f rfl ?_
          refine gc_skip ?_
          refine gx_then ?_
          refine gc_seq ?_
          refine gc_seq ?_
          refine gc_region ?_
          refine gl_op (op_rd rfl (rd_move rfl) ?_)
          refine gl_op (op_rd rfl (rd_nilCheck rfl) ?_)
          refine gl_op (op_rd rfl (rd_fieldAddr rfl (fa_81_3 _)) ?_)
          refine gl_op (op_rd rfl (rd_load Try.underlying78 rfl rfl (by first | exact ld_blk 0 rfl rfl | exact ld_blk 2 rfl rfl | exact ld_old (by assumption) (by simp) | exact ld_cells (by assumption) (by simp) rfl)) ?_)
          refine gl_op (op_rd rfl (rd_move rfl) ?_)
          refine gl_op (op_rd rfl (rd_lookupVOk 1 KV.nil rfl Try.underlying78 Try.underlying3 ty_96 rfl rfl) ?_)
          refine gl_op (op_rd rfl (rd_move rfl) ?_)
          refine gl_op (op_rd rfl (rd_extract rfl rfl) ?_)
          refine gl_op (op_rd rfl (rd_extract rfl rfl) ?_)
          refine gl_op (op_alloc ty_96 rfl rfl (fun b8 => ?_))
          first | refine gl_op (op_storeAgg 0 ty_96 rfl rfl rfl rfl rfl rfl (by first | rfl | (simp only [List.set_cons_succ, List.set_cons_zero]; exact rfl)) ?_) | refine gl_op (op_storeAgg 1 ty_96 rfl rfl rfl rfl rfl rfl (by first | rfl | (simp only [List.set_cons_succ, List.set_cons_zero]; exact rfl)) ?_) | refine gl_op (op_storeAgg 3 ty_96 rfl rfl rfl rfl rfl rfl (by first | rfl | (simp only [List.set_cons_succ, List.set_cons_zero]; exact rfl)) ?_) | refine gl_op (op_storeRowAgg 4 ty_96 rfl rfl rfl rfl rfl (by simp; omega) (by first | rfl | (simp only [List.set_cons_succ, List.set_cons_zero]; exact rfl)) ?_) | refine gl_op (op_storeRowAgg 5 ty_96 rfl rfl rfl rfl rfl (by simp; omega) (by first | rfl | (simp only [List.set_cons_succ, List.set_cons_zero]; exact rfl)) ?_)
          refine gl_op (op_rd rfl (rd_assign rfl) ?_)
          refine gl_nil ?_
          refine gx_then ?_
          refine gc_seq ?_
          refine gc_region ?_
          refine gl_op (op_rd rfl (rd_move rfl) ?_)
          refine gl_op (op_rd rfl (rd_not rfl) ?_)
          refine gl_op (op_rd rfl (rd_move rfl) ?_)
          refine gl_yes rfl rfl (op_rd rfl (rd_move rfl) ?_)
          refine gl_yes rfl rfl (op_rd rfl (rd_nilCheck rfl) ?_)
          refine gl_yes rfl rfl (op_rd rfl (rd_fieldAddr rfl (fa_81_3 _)) ?_)
          refine gl_yes rfl rfl (op_rd rfl (rd_load Try.underlying78 rfl rfl (by first | exact ld_blk 0 rfl rfl | exact ld_blk 1 rfl rfl | exact ld_blk 3 rfl rfl | exact ld_old (by assumption) (by simp) | exact ld_cells (by assumption) (by simp) rfl)) ?_)
          refine gl_yes rfl rfl (op_rd rfl (rd_lenMap 2 rfl Try.underlying78 rfl) ?_)
          refine gl_yes rfl rfl (op_rd rfl (rd_move rfl) ?_)
          refine gl_yes rfl rfl (op_call rfl (vf := []) (vc := []) rfl rfl Try.call47 (fun w1 ho => most_q f hf bs bf (some gb) cb rp cp id bm num free w1 (ho.blkCells 1 rfl) (ho.blkCells 3 rfl)) ?_)
          rintro _ _ ⟨rfl, rfl⟩
          refine gl_yes rfl rfl (op_rd rfl (rd_geq rfl rfl) (gk_dec (fun h59 => ?_) (fun h59 => ?_)))
          · skip
            exfalso
            simp only [List.length_nil] at h59
            omega
          · skip
            refine gl_op (op_rd rfl (rd_pick_t rfl rfl) ?_)
            refine gl_nil ?_
            refine gx_then ?_
            refine gc_cond_f rfl ?_
            refine gc_skip ?_
            refine gx_then ?_
            refine gc_seq ?_
            refine gc_region ?_
            refine gl_op (op_rd rfl (rd_move rfl) ?_)
            refine gl_op (op_call rfl (vf := []) (vc := []) rfl rfl Try.call48 (fun w1 ho => room0_q f hf bs bf gb cb rp cp id bm num free w1 (ho.blkCells 1 rfl) (ho.blkCells 3 rfl) (ho.rowSl 4 rfl) hcb hblank hfree) ?_)
            rintro _ _ ⟨rfl, rfl⟩
            refine gl_op (op_rd rfl (rd_move rfl) ?_)
            refine gl_op (op_rd rfl (rd_extract rfl rfl) ?_)
            refine gl_op (op_rd rfl (rd_extract rfl rfl) ?_)
            refine gl_op (op_alloc ty_94 rfl rfl (fun b10 => ?_))
            first | refine gl_op (op_storeAgg 0 ty_94 rfl rfl rfl rfl rfl rfl (by first | rfl | (simp only [List.set_cons_succ, List.set_cons_zero]; exact rfl)) ?_) | refine gl_op (op_storeAgg 1 ty_94 rfl rfl rfl rfl rfl rfl (by first | rfl | (simp only [List.set_cons_succ, List.set_cons_zero]; exact rfl)) ?_) | refine gl_op (op_storeAgg 2 ty_94 rfl rfl rfl rfl rfl rfl (by first | rfl | (simp only [List.set_cons_succ, List.set_cons_zero]; exact rfl)) ?_) | refine gl_op (op_storeAgg 4 ty_94 rfl rfl rfl rfl rfl rfl (by first | rfl | (simp only [List.set_cons_succ, List.set_cons_zero]; exact rfl)) ?_) | refine gl_op (op_storeRowAgg 5 ty_94 rfl rfl rfl rfl rfl (by simp; omega) (by first | rfl | (simp only [List.set_cons_succ, List.set_cons_zero]; exact rfl)) ?_) | refine gl_op (op_storeRowAgg 6 ty_94 rfl rfl rfl rfl rfl (by simp; omega) (by first | rfl | (simp only [List.set_cons_succ, List.set_cons_zero]; exact rfl)) ?_)
            refine gl_op (op_rd rfl (rd_assign rfl) ?_)
            refine gl_nil ?_
            refine gx_then ?_
            refine gc_seq ?_
            refine gc_seq ?_
            refine gc_region ?_
            refine gl_op (op_rd rfl (rd_move rfl) ?_)
            refine gl_op (op_rd rfl (rd_not rfl) ?_)
            refine gl_nil ?_
            refine gx_then ?_
            refine gc_cond_f rfl ?_
            refine gc_skip ?_
            refine gx_then ?_
            refine gc_seq ?_
            refine gc_drawP [0, 1, 2, 3, 4, 5, 6] false 10 rfl ?_
            refine ga_first 0 #[true, false, false, false, false, false, false, false, false, false, false] rfl rfl rfl rfl (by kernel_rfl) rfl ⟨[0, 1, 2, 3, 4, 5, 6], by decide, rfl⟩ (qt_rd (rd_move rfl)) ?_
            refine ga_first 1 #[true, true, false, false, false, false, false, false, false, false, false] rfl rfl rfl rfl (by kernel_rfl) rfl ⟨[0, 1, 2, 3, 4, 5, 6], by decide, rfl⟩ (qt_rd (rd_move rfl)) ?_
            refine ga_first 2 #[true, true, true, false, false, false, false, false, false, false, false] rfl rfl rfl rfl (by kernel_rfl) rfl ⟨[0, 1, 2, 3, 4, 5, 6], by decide, rfl⟩ (qt_rd (rd_nilCheck rfl)) ?_
            refine ga_first 3 #[true, true, true, true, false, false, false, false, false, false, false] rfl rfl rfl rfl (by kernel_rfl) rfl ⟨[0, 1, 2, 3, 4, 5, 6], by decide, rfl⟩ (qt_rd (rd_fieldAddr rfl (fa_81_4 _))) ?_
            refine ga_first 4 #[true, true, true, true, true, false, false, false, false, false, false] rfl rfl rfl rfl (by kernel_rfl) rfl ⟨[0, 1, 2, 3, 4, 5, 6], by decide, rfl⟩ (qt_rd (rd_load Try.underlying79 rfl rfl (by first | exact ld_blk 0 rfl rfl | exact ld_blk 1 rfl rfl | exact ld_blk 2 rfl rfl | exact ld_blk 4 rfl rfl | exact ld_old (by assumption) (by simp) | exact ld_cells (by assumption) (by simp) rfl))) ?_
            refine ga_first 5 #[true, true, true, true, true, true, false, false, false, false, false] rfl rfl rfl rfl (by kernel_rfl) rfl ⟨[0, 1, 2, 3, 4, 5, 6], by decide, rfl⟩ (qt_rd (rd_add32 (b := 1) rfl rfl (by omega))) ?_
            refine ga_first 6 #[true, true, true, true, true, true, true, false, false, false, false] rfl rfl rfl rfl (by kernel_rfl) rfl ⟨[0, 1, 2, 3, 4, 5, 6], by decide, rfl⟩ (qt_rd (rd_move rfl)) ?_
            refine ga_two 7 9 #[true, true, true, true, true, true, true, true, false, false, false] #[true, true, true, true, true, true, true, false, false, true, false] rfl rfl rfl rfl (by kernel_rfl) rfl rfl (.inr ⟨[0, 1, 2, 3, 4, 5, 6], by decide, rfl⟩) ?_ ?_
            · skip
              refine (op_call rfl (vf := []) (vc := []) rfl rfl Try.call42 (fun w2 ho => Clone_ok vs a ca w2 (hsl.at ho) (by omega)) ?_)
              rintro _ _ ⟨rv, cv, rfl, rfl⟩
              refine gk_know (p := ∃ g, rv = some g ∧ vs.length ≤ cv) (fun w ho => row_some (ho.holds (.row 5 1 rv vs.length cv (vs.map u8V)) (by simp)) (by omega)) ?_
              rintro ⟨gv, rfl, _⟩
              refine ga_first 8 #[true, true, true, true, true, true, true, true, true, false, false] rfl rfl rfl rfl (by kernel_rfl) rfl ⟨[1, 2, 3, 4, 5, 6, 7], by decide, rfl⟩ (qt_rd (rd_build rfl (fun _ => bd_92_0_1_2 _ _ _ _ _))) ?_
              refine ga_only 9 #[true, true, true, true, true, true, true, true, true, true, false] rfl rfl (by kernel_rfl) rfl (.inr ⟨[1, 2, 3, 4, 5, 6, 7], by decide, rfl⟩) (op_alloc ty_92 rfl rfl (fun b13 => ?_))
              first | refine ga_only 10 #[true, true, true, true, true, true, true, true, true, true, true] rfl rfl (by kernel_rfl) rfl (.inr ⟨[2, 3, 4, 5, 6, 7, 8], by decide, rfl⟩) (op_storeAgg 0 ty_92 rfl rfl rfl rfl rfl rfl (by first | rfl | (simp only [List.set_cons_succ, List.set_cons_zero]; exact rfl)) ?_) | refine ga_only 10 #[true, true, true, true, true, true, true, true, true, true, true] rfl rfl (by kernel_rfl) rfl (.inr ⟨[2, 3, 4, 5, 6, 7, 8], by decide, rfl⟩) (op_storeAgg 2 ty_92 rfl rfl rfl rfl rfl rfl (by first | rfl | (simp only [List.set_cons_succ, List.set_cons_zero]; exact rfl)) ?_) | refine ga_only 10 #[true, true, true, true, true, true, true, true, true, true, true] rfl rfl (by kernel_rfl) rfl (.inr ⟨[2, 3, 4, 5, 6, 7, 8], by decide, rfl⟩) (op_storeAgg 3 ty_92 rfl rfl rfl rfl rfl rfl (by first | rfl | (simp only [List.set_cons_succ, List.set_cons_zero]; exact rfl)) ?_) | refine ga_only 10 #[true, true, true, true, true, true, true, true, true, true, true] rfl rfl (by kernel_rfl) rfl (.inr ⟨[2, 3, 4, 5, 6, 7, 8], by decide, rfl⟩) (op_storeAgg 4 ty_92 rfl rfl rfl rfl rfl rfl (by first | rfl | (simp only [List.set_cons_succ, List.set_cons_zero]; exact rfl)) ?_) | refine ga_only 10 #[true, true, true, true, true, true, true, true, true, true, true] rfl rfl (by kernel_rfl) rfl (.inr ⟨[2, 3, 4, 5, 6, 7, 8], by decide, rfl⟩) (op_storeAgg 6 ty_92 rfl rfl rfl rfl rfl rfl (by first | rfl | (simp only [List.set_cons_succ, List.set_cons_zero]; exact rfl)) ?_) | refine ga_only 10 #[true, true, true, true, true, true, true, true, true, true, true] rfl rfl (by kernel_rfl) rfl (.inr ⟨[2, 3, 4, 5, 6, 7, 8], by decide, rfl⟩) (op_storeRowAgg 1 ty_92 rfl rfl rfl rfl rfl (by simp; omega) (by first | rfl | (simp only [List.set_cons_succ, List.set_cons_zero]; exact rfl)) ?_) | refine ga_only 10 #[true, true, true, true, true, true, true, true, true, true, true] rfl rfl (by kernel_rfl) rfl (.inr ⟨[2, 3, 4, 5, 6, 7, 8], by decide, rfl⟩) (op_storeRowAgg 7 ty_92 rfl rfl rfl rfl rfl (by simp; omega) (by first | rfl | (simp only [List.set_cons_succ, List.set_cons_zero]; exact rfl)) ?_) | refine ga_only 10 #[true, true, true, true, true, true, true, true, true, true, true] rfl rfl (by kernel_rfl) rfl (.inr ⟨[2, 3, 4, 5, 6, 7, 8], by decide, rfl⟩) (op_storeRowAgg 8 ty_92 rfl rfl rfl rfl rfl (by simp; omega) (by first | rfl | (simp only [List.set_cons_succ, List.set_cons_zero]; exact rfl)) ?_)
              refine ga_end (by kernel_rfl) (.inl (by kernel_rfl)) ?_
              refine gx_then ?_
              refine gc_seq ?_
              refine gc_seq ?_
              refine gc_drawP [0, 1, 2, 3, 5] true 5 rfl ?_
              refine ga_first 0 #[true, false, false, false, false, false] rfl rfl rfl rfl (by kernel_rfl) rfl ⟨[0, 1, 2, 3, 5], by decide, rfl⟩ (qt_rd (rd_move rfl)) ?_
              refine ga_first 1 #[true, true, false, false, false, false] rfl rfl rfl rfl (by kernel_rfl) rfl ⟨[0, 1, 2, 3, 5], by decide, rfl⟩ (qt_rd (rd_loadAgg Try.underlying94 rfl ty_94 rfl (by first | exact cs_blk 0 (off := 0) (k := 2) rfl rfl | exact cs_blk 2 (off := 0) (k := 2) rfl rfl | exact cs_blk 3 (off := 0) (k := 2) rfl rfl | exact cs_old (by assumption) (by simp)) rfl)) ?_
              refine ga_first 2 #[true, true, true, false, false, false] rfl rfl rfl rfl (by kernel_rfl) rfl ⟨[0, 1, 2, 3, 5], by decide, rfl⟩ (qt_rd (rd_loadAgg Try.underlying92 rfl ty_92 rfl (by first | exact cs_blk 0 (off := 0) (k := 3) rfl rfl | exact cs_blk 2 (off := 0) (k := 3) rfl rfl | exact cs_blk 3 (off := 0) (k := 3) rfl rfl | exact cs_old (by assumption) (by simp)) rfl)) ?_
              refine ga_only 3 #[true, true, true, true, false, false] rfl rfl (by kernel_rfl) rfl (.inr ⟨[0, 1, 2, 3, 5], by decide, rfl⟩) (op_call rfl (vf := []) (vc := []) rfl rfl Try.call52 (fun w2 ho => pack_ok key (num + 1) (by omega) (by omega) vs hvs hv16 ⟨gv, 0, none⟩ cv w2 (ho.rowSl 1 rfl)) ?_)
              rintro _ _ ⟨rr, cr, rfl, rfl⟩
              have hplt := pack_lt (num := num + 1) (show key < 65536 by omega) hvs hv16
              have hp24 := pack_len (key := key) (num := num + 1) hv16
              refine ga_only 4 #[true, true, true, true, true, false] rfl rfl (by kernel_rfl) rfl (.inr ⟨[1, 2, 3, 4, 6], by decide, rfl⟩) (op_callM [5, 7, 8, 9] [0, 1, 2, 3, 4, 6] rfl (vf := []) (vc := []) rfl rfl Try.call51 (by decide) rfl (fun w how hc => write_ok f hf bs bf (some gb) cb rp cp id bm num free _ w hc hpr 0 0 (by decide) (by decide) (packP key (num + 1) vs) hplt hp24 (some ⟨rr, 0, none⟩) 24 (rowOut how 0 [5, 7, 8, 9] rfl (by decide))) ?_)
              rintro _ _ ⟨rfl, rfl⟩
              refine ga_first 5 #[true, true, true, true, true, true] rfl rfl rfl rfl (by kernel_rfl) rfl ⟨[5, 6, 7, 8, 9], by decide, rfl⟩ (qt_rd (rd_assign rfl)) ?_
              refine ga_end (by kernel_rfl) (.inr ⟨[5, 6, 7, 8, 9], by decide, rfl⟩) ?_
              refine gx_then ?_
              refine gc_seq ?_
              refine gc_region ?_
              refine gl_op (op_rd rfl (rd_move rfl) ?_)
              refine gl_op (op_rd rfl (rd_neq rfl rfl) (gk_dec (fun h97 => ?_) (fun h97 => ?_)))
              · skip
                exact absurd hw0 h97
              · skip
                refine gl_nil ?_
                refine gx_then ?_
                refine gc_cond_f rfl ?_
                refine gc_skip ?_
                refine gx_then ?_
                refine gc_seq ?_
                refine gc_region ?_
                refine gl_op (op_rd rfl (rd_move rfl) ?_)
                refine gl_op (op_rd rfl (rd_nilCheck rfl) ?_)
                refine gl_op (op_rd rfl (rd_fieldAddr rfl (fa_81_4 _)) ?_)
                refine gl_op (op_rd rfl (rd_load Try.underlying79 rfl rfl (by first | exact ld_blk 0 rfl rfl | exact ld_blk 1 rfl rfl | exact ld_blk 5 rfl rfl | exact ld_blk 7 rfl rfl | exact ld_blk 8 rfl rfl | exact ld_old (by assumption) (by simp) | exact ld_cells (by assumption) (by simp) rfl)) ?_)
                refine gl_op (op_rd rfl (rd_add32 (b := 1) rfl rfl (by omega)) ?_)
                refine gl_op (op_rd rfl (rd_nilCheck rfl) ?_)
                refine gl_op (op_rd rfl (rd_fieldAddr rfl (fa_81_4 _)) ?_)
                first | refine gl_op (op_store 0 ty_79 rfl rfl rfl rfl rfl (by first | rfl | (simp only [List.set_cons_succ, List.set_cons_zero]; exact rfl)) (by first | rfl | (simp only [List.set_cons_succ, List.set_cons_zero]; exact rfl)) ?_) | refine gl_op (op_store 1 ty_79 rfl rfl rfl rfl rfl (by first | rfl | (simp only [List.set_cons_succ, List.set_cons_zero]; exact rfl)) (by first | rfl | (simp only [List.set_cons_succ, List.set_cons_zero]; exact rfl)) ?_) | refine gl_op (op_store 5 ty_79 rfl rfl rfl rfl rfl (by first | rfl | (simp only [List.set_cons_succ, List.set_cons_zero]; exact rfl)) (by first | rfl | (simp only [List.set_cons_succ, List.set_cons_zero]; exact rfl)) ?_) | refine gl_op (op_store 7 ty_79 rfl rfl rfl rfl rfl (by first | rfl | (simp only [List.set_cons_succ, List.set_cons_zero]; exact rfl)) (by first | rfl | (simp only [List.set_cons_succ, List.set_cons_zero]; exact rfl)) ?_) | refine gl_op (op_store 8 ty_79 rfl rfl rfl rfl rfl (by first | rfl | (simp only [List.set_cons_succ, List.set_cons_zero]; exact rfl)) (by first | rfl | (simp only [List.set_cons_succ, List.set_cons_zero]; exact rfl)) ?_) | refine gl_op (op_storeRow 2 ty_79 rfl rfl rfl rfl (by simp; omega) (by first | rfl | (simp only [List.set_cons_succ, List.set_cons_zero]; exact rfl)) ?_) | refine gl_op (op_storeRow 3 ty_79 rfl rfl rfl rfl (by simp; omega) (by first | rfl | (simp only [List.set_cons_succ, List.set_cons_zero]; exact rfl)) ?_) | refine gl_op (op_storeRow 4 ty_79 rfl rfl rfl rfl (by simp; omega) (by first | rfl | (simp only [List.set_cons_succ, List.set_cons_zero]; exact rfl)) ?_) | refine gl_op (op_storeRow 6 ty_79 rfl rfl rfl rfl (by simp; omega) (by first | rfl | (simp only [List.set_cons_succ, List.set_cons_zero]; exact rfl)) ?_)
                refine gl_nil ?_
                refine gx_then ?_
                refine gc_seq ?_
                refine gc_drawP [0, 1, 2, 3, 4, 5, 6, 7, 8] false 8 rfl ?_
                refine ga_first 0 #[true, false, false, false, false, false, false, false, false] rfl rfl rfl rfl (by kernel_rfl) rfl ⟨[0, 1, 2, 3, 4, 5, 6, 7, 8], by decide, rfl⟩ (qt_rd (rd_move rfl)) ?_
                refine ga_first 1 #[true, true, false, false, false, false, false, false, false] rfl rfl rfl rfl (by kernel_rfl) rfl ⟨[0, 1, 2, 3, 4, 5, 6, 7, 8], by decide, rfl⟩ (qt_rd (rd_nilCheck rfl)) ?_
                refine ga_first 2 #[true, true, true, false, false, false, false, false, false] rfl rfl rfl rfl (by kernel_rfl) rfl ⟨[0, 1, 2, 3, 4, 5, 6, 7, 8], by decide, rfl⟩ (qt_rd (rd_fieldAddr rfl (fa_81_3 _))) ?_
                refine ga_first 3 #[true, true, true, true, false, false, false, false, false] rfl rfl rfl rfl (by kernel_rfl) rfl ⟨[0, 1, 2, 3, 4, 5, 6, 7, 8], by decide, rfl⟩ (qt_rd (rd_load Try.underlying78 rfl rfl (by first | exact ld_blk 0 rfl rfl | exact ld_blk 1 rfl rfl | exact ld_blk 5 rfl rfl | exact ld_blk 7 rfl rfl | exact ld_blk 8 rfl rfl | exact ld_old (by assumption) (by simp) | exact ld_cells (by assumption) (by simp) rfl))) ?_
                refine ga_first 4 #[true, true, true, true, true, false, false, false, false] rfl rfl rfl rfl (by kernel_rfl) rfl ⟨[0, 1, 2, 3, 4, 5, 6, 7, 8], by decide, rfl⟩ (qt_rd (rd_move rfl)) ?_
                refine ga_first 5 #[true, true, true, true, true, true, false, false, false] rfl rfl rfl rfl (by kernel_rfl) rfl ⟨[0, 1, 2, 3, 4, 5, 6, 7, 8], by decide, rfl⟩ (qt_rd (rd_loadAgg Try.underlying92 rfl ty_92 rfl (by first | exact cs_blk 0 (off := 0) (k := 3) rfl rfl | exact cs_blk 1 (off := 0) (k := 3) rfl rfl | exact cs_blk 5 (off := 0) (k := 3) rfl rfl | exact cs_blk 7 (off := 0) (k := 3) rfl rfl | exact cs_blk 8 (off := 0) (k := 3) rfl rfl | exact cs_old (by assumption) (by simp)) rfl)) ?_
                refine ga_first 6 #[true, true, true, true, true, true, true, false, false] rfl rfl rfl rfl (by kernel_rfl) rfl ⟨[0, 1, 2, 3, 4, 5, 6, 7, 8], by decide, rfl⟩ (qt_rd (rd_loadAgg Try.underlying94 rfl ty_94 rfl (by first | exact cs_blk 0 (off := 0) (k := 2) rfl rfl | exact cs_blk 1 (off := 0) (k := 2) rfl rfl | exact cs_blk 5 (off := 0) (k := 2) rfl rfl | exact cs_blk 7 (off := 0) (k := 2) rfl rfl | exact cs_blk 8 (off := 0) (k := 2) rfl rfl | exact cs_old (by assumption) (by simp)) rfl)) ?_
                refine ga_first 7 #[true, true, true, true, true, true, true, true, false] rfl rfl rfl rfl (by kernel_rfl) rfl ⟨[0, 1, 2, 3, 4, 5, 6, 7, 8], by decide, rfl⟩ (qt_rd (rd_build rfl (fun _ => bd_96_0_1 _ _ _ _ _ _ _))) ?_
                refine ga_only 8 #[true, true, true, true, true, true, true, true, true] rfl rfl (by kernel_rfl) rfl (.inr ⟨[0, 1, 2, 3, 4, 5, 6, 7, 8], by decide, rfl⟩) (op_mapInsertV 9 KV.nil Try.underlying78 Try.underlying3 rfl rfl rfl rfl rfl (by first | rfl | (simp only [List.set_cons_succ, List.set_cons_zero]; exact rfl)) ?_)
                refine ga_end (by kernel_rfl) (.inl (by kernel_rfl)) ?_
                refine gx_then ?_
                refine gc_seq ?_
                refine gc_region ?_
                refine gl_op (op_rd rfl (rd_assign rfl) ?_)
                refine gl_nil ?_
                refine gx_then ?_
                refine gc_ret ?_
                refine gx_ret1 (.inl rfl) Try.results17 rfl [0, 9, 1, 2, 3, 6] (by decide) ?_
                exact ⟨gv, cv, rfl, rfl⟩
            · skip
              refine (op_alloc ty_92 rfl rfl (fun b13 => ?_))
              refine ga_only 7 #[true, true, true, true, true, true, true, true, false, true, false] rfl rfl (by kernel_rfl) rfl (.inr ⟨[1, 2, 3, 4, 5, 6, 7], by decide, rfl⟩) (op_call rfl (vf := []) (vc := []) rfl rfl Try.call42 (fun w2 ho => Clone_ok vs a ca w2 (hsl.at ho) (by omega)) ?_)
              rintro _ _ ⟨rv, cv, rfl, rfl⟩
              refine gk_know (p := ∃ g, rv = some g ∧ vs.length ≤ cv) (fun w ho => row_some (ho.holds (.row 5 1 rv vs.length cv (vs.map u8V)) (by simp)) (by omega)) ?_
              rintro ⟨gv, rfl, _⟩
              refine ga_first 8 #[true, true, true, true, true, true, true, true, true, true, false] rfl rfl rfl rfl (by kernel_rfl) rfl ⟨[2, 3, 4, 5, 6, 7, 8], by decide, rfl⟩ (qt_rd (rd_build rfl (fun _ => bd_92_0_1_2 _ _ _ _ _))) ?_
              first | refine ga_only 10 #[true, true, true, true, true, true, true, true, true, true, true] rfl rfl (by kernel_rfl) rfl (.inr ⟨[2, 3, 4, 5, 6, 7, 8], by decide, rfl⟩) (op_storeAgg 1 ty_92 rfl rfl rfl rfl rfl rfl (by first | rfl | (simp only [List.set_cons_succ, List.set_cons_zero]; exact rfl)) ?_) | refine ga_only 10 #[true, true, true, true, true, true, true, true, true, true, true] rfl rfl (by kernel_rfl) rfl (.inr ⟨[2, 3, 4, 5, 6, 7, 8], by decide, rfl⟩) (op_storeAgg 2 ty_92 rfl rfl rfl rfl rfl rfl (by first | rfl | (simp only [List.set_cons_succ, List.set_cons_zero]; exact rfl)) ?_) | refine ga_only 10 #[true, true, true, true, true, true, true, true, true, true, true] rfl rfl (by kernel_rfl) rfl (.inr ⟨[2, 3, 4, 5, 6, 7, 8], by decide, rfl⟩) (op_storeAgg 3 ty_92 rfl rfl rfl rfl rfl rfl (by first | rfl | (simp only [List.set_cons_succ, List.set_cons_zero]; exact rfl)) ?_) | refine ga_only 10 #[true, true, true, true, true, true, true, true, true, true, true] rfl rfl (by kernel_rfl) rfl (.inr ⟨[2, 3, 4, 5, 6, 7, 8], by decide, rfl⟩) (op_storeAgg 4 ty_92 rfl rfl rfl rfl rfl rfl (by first | rfl | (simp only [List.set_cons_succ, List.set_cons_zero]; exact rfl)) ?_) | refine ga_only 10 #[true, true, true, true, true, true, true, true, true, true, true] rfl rfl (by kernel_rfl) rfl (.inr ⟨[2, 3, 4, 5, 6, 7, 8], by decide, rfl⟩) (op_storeAgg 6 ty_92 rfl rfl rfl rfl rfl rfl (by first | rfl | (simp only [List.set_cons_succ, List.set_cons_zero]; exact rfl)) ?_) | refine ga_only 10 #[true, true, true, true, true, true, true, true, true, true, true] rfl rfl (by kernel_rfl) rfl (.inr ⟨[2, 3, 4, 5, 6, 7, 8], by decide, rfl⟩) (op_storeRowAgg 0 ty_92 rfl rfl rfl rfl rfl (by simp; omega) (by first | rfl | (simp only [List.set_cons_succ, List.set_cons_zero]; exact rfl)) ?_) | refine ga_only 10 #[true, true, true, true, true, true, true, true, true, true, true] rfl rfl (by kernel_rfl) rfl (.inr ⟨[2, 3, 4, 5, 6, 7, 8], by decide, rfl⟩) (op_storeRowAgg 7 ty_92 rfl rfl rfl rfl rfl (by simp; omega) (by first | rfl | (simp only [List.set_cons_succ, List.set_cons_zero]; exact rfl)) ?_) | refine ga_only 10 #[true, true, true, true, true, true, true, true, true, true, true] rfl rfl (by kernel_rfl) rfl (.inr ⟨[2, 3, 4, 5, 6, 7, 8], by decide, rfl⟩) (op_storeRowAgg 8 ty_92 rfl rfl rfl rfl rfl (by simp; omega) (by first | rfl | (simp only [List.set_cons_succ, List.set_cons_zero]; exact rfl)) ?_)
              refine ga_end (by kernel_rfl) (.inl (by kernel_rfl)) ?_
              refine gx_then ?_
              refine gc_seq ?_
              refine gc_seq ?_
              refine gc_drawP [0, 1, 2, 3, 5] true 5 rfl ?_
              refine ga_first 0 #[true, false, false, false, false, false] rfl rfl rfl rfl (by kernel_rfl) rfl ⟨[0, 1, 2, 3, 5], by decide, rfl⟩ (qt_rd (rd_move rfl)) ?_
              refine ga_first 1 #[true, true, false, false, false, false] rfl rfl rfl rfl (by kernel_rfl) rfl ⟨[0, 1, 2, 3, 5], by decide, rfl⟩ (qt_rd (rd_loadAgg Try.underlying94 rfl ty_94 rfl (by first | exact cs_blk 1 (off := 0) (k := 2) rfl rfl | exact cs_blk 2 (off := 0) (k := 2) rfl rfl | exact cs_blk 3 (off := 0) (k := 2) rfl rfl | exact cs_old (by assumption) (by simp)) rfl)) ?_
              refine ga_first 2 #[true, true, true, false, false, false] rfl rfl rfl rfl (by kernel_rfl) rfl ⟨[0, 1, 2, 3, 5], by decide, rfl⟩ (qt_rd (rd_loadAgg Try.underlying92 rfl ty_92 rfl (by first | exact cs_blk 1 (off := 0) (k := 3) rfl rfl | exact cs_blk 2 (off := 0) (k := 3) rfl rfl | exact cs_blk 3 (off := 0) (k := 3) rfl rfl | exact cs_old (by assumption) (by simp)) rfl)) ?_
              refine ga_only 3 #[true, true, true, true, false, false] rfl rfl (by kernel_rfl) rfl (.inr ⟨[0, 1, 2, 3, 5], by decide, rfl⟩) (op_call rfl (vf := []) (vc := []) rfl rfl Try.call52 (fun w2 ho => pack_ok key (num + 1) (by omega) (by omega) vs hvs hv16 ⟨gv, 0, none⟩ cv w2 (ho.rowSl 0 rfl)) ?_)
              rintro _ _ ⟨rr, cr, rfl, rfl⟩
              have hplt := pack_lt (num := num + 1) (show key < 65536 by omega) hvs hv16
              have hp24 := pack_len (key := key) (num := num + 1) hv16
              refine ga_only 4 #[true, true, true, true, true, false] rfl rfl (by kernel_rfl) rfl (.inr ⟨[1, 2, 3, 4, 6], by decide, rfl⟩) (op_callM [5, 7, 8, 9] [0, 1, 2, 3, 4, 6] rfl (vf := []) (vc := []) rfl rfl Try.call51 (by decide) rfl (fun w how hc => write_ok f hf bs bf (some gb) cb rp cp id bm num free _ w hc hpr 0 0 (by decide) (by decide) (packP key (num + 1) vs) hplt hp24 (some ⟨rr, 0, none⟩) 24 (rowOut how 0 [5, 7, 8, 9] rfl (by decide))) ?_)
              rintro _ _ ⟨rfl, rfl⟩
              refine ga_first 5 #[true, true, true, true, true, true] rfl rfl rfl rfl (by kernel_rfl) rfl ⟨[5, 6, 7, 8, 9], by decide, rfl⟩ (qt_rd (rd_assign rfl)) ?_
              refine ga_end (by kernel_rfl) (.inr ⟨[5, 6, 7, 8, 9], by decide, rfl⟩) ?_
              refine gx_then ?_
              refine gc_seq ?_
              refine gc_region ?_
              refine gl_op (op_rd rfl (rd_move rfl) ?_)
              refine gl_op (op_rd rfl (rd_neq rfl rfl) (gk_dec (fun h97 => ?_) (fun h97 => ?_)))
              · skip
                exact absurd hw0 h97
              · skip
                refine gl_nil ?_
                refine gx_then ?_
                refine gc_cond_f rfl ?_
                refine gc_skip ?_
                refine gx_then ?_
                refine gc_seq ?_
                refine gc_region ?_
                refine gl_op (op_rd rfl (rd_move rfl) ?_)
                refine gl_op (op_rd rfl (rd_nilCheck rfl) ?_)
                refine gl_op (op_rd rfl (rd_fieldAddr rfl (fa_81_4 _)) ?_)
                refine gl_op (op_rd rfl (rd_load Try.underlying79 rfl rfl (by first | exact ld_blk 0 rfl rfl | exact ld_blk 1 rfl rfl | exact ld_blk 6 rfl rfl | exact ld_blk 7 rfl rfl | exact ld_blk 8 rfl rfl | exact ld_old (by assumption) (by simp) | exact ld_cells (by assumption) (by simp) rfl)) ?_)
                refine gl_op (op_rd rfl (rd_add32 (b := 1) rfl rfl (by omega)) ?_)
                refine gl_op (op_rd rfl (rd_nilCheck rfl) ?_)
                refine gl_op (op_rd rfl (rd_fieldAddr rfl (fa_81_4 _)) ?_)
                first | refine gl_op (op_store 0 ty_79 rfl rfl rfl rfl rfl (by first | rfl | (simp only [List.set_cons_succ, List.set_cons_zero]; exact rfl)) (by first | rfl | (simp only [List.set_cons_succ, List.set_cons_zero]; exact rfl)) ?_) | refine gl_op (op_store 1 ty_79 rfl rfl rfl rfl rfl (by first | rfl | (simp only [List.set_cons_succ, List.set_cons_zero]; exact rfl)) (by first | rfl | (simp only [List.set_cons_succ, List.set_cons_zero]; exact rfl)) ?_) | refine gl_op (op_store 6 ty_79 rfl rfl rfl rfl rfl (by first | rfl | (simp only [List.set_cons_succ, List.set_cons_zero]; exact rfl)) (by first | rfl | (simp only [List.set_cons_succ, List.set_cons_zero]; exact rfl)) ?_) | refine gl_op (op_store 7 ty_79 rfl rfl rfl rfl rfl (by first | rfl | (simp only [List.set_cons_succ, List.set_cons_zero]; exact rfl)) (by first | rfl | (simp only [List.set_cons_succ, List.set_cons_zero]; exact rfl)) ?_) | refine gl_op (op_store 8 ty_79 rfl rfl rfl rfl rfl (by first | rfl | (simp only [List.set_cons_succ, List.set_cons_zero]; exact rfl)) (by first | rfl | (simp only [List.set_cons_succ, List.set_cons_zero]; exact rfl)) ?_) | refine gl_op (op_storeRow 2 ty_79 rfl rfl rfl rfl (by simp; omega) (by first | rfl | (simp only [List.set_cons_succ, List.set_cons_zero]; exact rfl)) ?_) | refine gl_op (op_storeRow 3 ty_79 rfl rfl rfl rfl (by simp; omega) (by first | rfl | (simp only [List.set_cons_succ, List.set_cons_zero]; exact rfl)) ?_) | refine gl_op (op_storeRow 4 ty_79 rfl rfl rfl rfl (by simp; omega) (by first | rfl | (simp only [List.set_cons_succ, List.set_cons_zero]; exact rfl)) ?_) | refine gl_op (op_storeRow 5 ty_79 rfl rfl rfl rfl (by simp; omega) (by first | rfl | (simp only [List.set_cons_succ, List.set_cons_zero]; exact rfl)) ?_)
                refine gl_nil ?_
                refine gx_then ?_
                refine gc_seq ?_
                refine gc_drawP [0, 1, 2, 3, 4, 5, 6, 7, 8] false 8 rfl ?_
                refine ga_first 0 #[true, false, false, false, false, false, false, false, false] rfl rfl rfl rfl (by kernel_rfl) rfl ⟨[0, 1, 2, 3, 4, 5, 6, 7, 8], by decide, rfl⟩ (qt_rd (rd_move rfl)) ?_
                refine ga_first 1 #[true, true, false, false, false, false, false, false, false] rfl rfl rfl rfl (by kernel_rfl) rfl ⟨[0, 1, 2, 3, 4, 5, 6, 7, 8], by decide, rfl⟩ (qt_rd (rd_nilCheck rfl)) ?_
                refine ga_first 2 #[true, true, true, false, false, false, false, false, false] rfl rfl rfl rfl (by kernel_rfl) rfl ⟨[0, 1, 2, 3, 4, 5, 6, 7, 8], by decide, rfl⟩ (qt_rd (rd_fieldAddr rfl (fa_81_3 _))) ?_
                refine ga_first 3 #[true, true, true, true, false, false, false, false, false] rfl rfl rfl rfl (by kernel_rfl) rfl ⟨[0, 1, 2, 3, 4, 5, 6, 7, 8], by decide, rfl⟩ (qt_rd (rd_load Try.underlying78 rfl rfl (by first | exact ld_blk 0 rfl rfl | exact ld_blk 1 rfl rfl | exact ld_blk 6 rfl rfl | exact ld_blk 7 rfl rfl | exact ld_blk 8 rfl rfl | exact ld_old (by assumption) (by simp) | exact ld_cells (by assumption) (by simp) rfl))) ?_
                refine ga_first 4 #[true, true, true, true, true, false, false, false, false] rfl rfl rfl rfl (by kernel_rfl) rfl ⟨[0, 1, 2, 3, 4, 5, 6, 7, 8], by decide, rfl⟩ (qt_rd (rd_move rfl)) ?_
                refine ga_first 5 #[true, true, true, true, true, true, false, false, false] rfl rfl rfl rfl (by kernel_rfl) rfl ⟨[0, 1, 2, 3, 4, 5, 6, 7, 8], by decide, rfl⟩ (qt_rd (rd_loadAgg Try.underlying92 rfl ty_92 rfl (by first | exact cs_blk 0 (off := 0) (k := 3) rfl rfl | exact cs_blk 1 (off := 0) (k := 3) rfl rfl | exact cs_blk 6 (off := 0) (k := 3) rfl rfl | exact cs_blk 7 (off := 0) (k := 3) rfl rfl | exact cs_blk 8 (off := 0) (k := 3) rfl rfl | exact cs_old (by assumption) (by simp)) rfl)) ?_
                refine ga_first 6 #[true, true, true, true, true, true, true, false, false] rfl rfl rfl rfl (by kernel_rfl) rfl ⟨[0, 1, 2, 3, 4, 5, 6, 7, 8], by decide, rfl⟩ (qt_rd (rd_loadAgg Try.underlying94 rfl ty_94 rfl (by first | exact cs_blk 0 (off := 0) (k := 2) rfl rfl | exact cs_blk 1 (off := 0) (k := 2) rfl rfl | exact cs_blk 6 (off := 0) (k := 2) rfl rfl | exact cs_blk 7 (off := 0) (k := 2) rfl rfl | exact cs_blk 8 (off := 0) (k := 2) rfl rfl | exact cs_old (by assumption) (by simp)) rfl)) ?_
                refine ga_first 7 #[true, true, true, true, true, true, true, true, false] rfl rfl rfl rfl (by kernel_rfl) rfl ⟨[0, 1, 2, 3, 4, 5, 6, 7, 8], by decide, rfl⟩ (qt_rd (rd_build rfl (fun _ => bd_96_0_1 _ _ _ _ _ _ _))) ?_
                refine ga_only 8 #[true, true, true, true, true, true, true, true, true] rfl rfl (by kernel_rfl) rfl (.inr ⟨[0, 1, 2, 3, 4, 5, 6, 7, 8], by decide, rfl⟩) (op_mapInsertV 9 KV.nil Try.underlying78 Try.underlying3 rfl rfl rfl rfl rfl (by first | rfl | (simp only [List.set_cons_succ, List.set_cons_zero]; exact rfl)) ?_)
                refine ga_end (by kernel_rfl) (.inl (by kernel_rfl)) ?_
                refine gx_then ?_
                refine gc_seq ?_
                refine gc_region ?_
                refine gl_op (op_rd rfl (rd_assign rfl) ?_)
                refine gl_nil ?_
                refine gx_then ?_
                refine gc_ret ?_
                refine gx_ret1 (.inl rfl) Try.results17 rfl [0, 9, 1, 2, 3, 5] (by decide) ?_
                exact ⟨gv, cv, rfl, rfl⟩

end Go.Proofs.Ythcbcdjkfefnlaa

set_option autoImplicit false
set_option linter.unusedVariables false
namespace Go.Proofs.Ythcbcdjkfefnlaa
open Go.Gv
open Go.RowKit
open Iv
set_option maxRecDepth 100000 in
set_option maxHeartbeats 1000000 in
theorem Get_ok (f : Fl) (hf : f.Ok) (bs bf : Nat) (rb : Option Nat) (cb : Nat) (rp : Option Nat) (cp : Nat) (id bm num : Nat) (free : Int) (es : List MapEntry) (nb : Nat) (m : List (Int × Value)) (hkv : KV es m) (S : List Nat) (w0 : World) (hown : Own w0 S w0 (.blk bs [.bool true, .pointer (some ⟨bf, 0, none⟩), natV id, .map (some bm), .int .u32 (num : Nat), .int .i64 free] 81 :: .obj bm (.map es.toArray nb) :: FlH bf rb cb rp cp f)) (hrd : readyP f id = 0) (key : Nat) (hkey : key ≤ 999) (k2 n2 b2 s2 : Nat) (val : List Nat) (av : Option Addr) (cv : Nat) (hv : (lkv (key : Int) m).getD (.agg #[.int .i64 0, .int .u32 0, .slice none 0 0, .int .i64 0, .int .i64 0]) = .agg #[natV k2, .int .u32 (n2 : Int), .slice av val.length cv, natV b2, natV s2]) (hval : OldSl w0 S av val.length 1 (val.map u8V)) (hvl : val.length ≤ 140737488355328) : Sp Try.prog 12 [.pointer (some ⟨bs, 0, none⟩), natV key] w0 S (fun v L => ∃ (r : Option Nat) (c : Nat), v = .tuple #[.slice (rowA r) val.length c, .int .i64 0] ∧ L = (.blk bs [.bool true, .pointer (some ⟨bf, 0, none⟩), natV id, .map (some bm), .int .u32 (num : Nat), .int .i64 free] 81 :: .obj bm (.map es.toArray nb) :: FlH bf rb cb rp cp f) ++ [.row 5 1 r val.length c (val.map u8V)]) := by
  refine spec_enter Try.func12 rfl Try.ntmps12 rfl hown ?_
  simp only [argEnv]
  refine gc_seq ?_
  refine gc_region ?_
  refine gl_op (op_rd rfl (rd_assign rfl) ?_)
  refine gl_op (op_rd rfl (rd_assign rfl) ?_)
  refine gl_nil ?_
  refine gx_then ?_
  refine gc_seq ?_
  refine gc_seq ?_
  refine gc_region ?_
  refine gl_op (op_rd rfl (rd_move rfl) ?_)
  refine gl_op (op_rd rfl (rd_eqlNilPt eg_29 Try.underlying29 rfl rfl) ?_)
  refine gl_op (op_rd rfl (rd_move rfl) ?_)
  refine gl_yes rfl rfl (op_rd rfl (rd_move rfl) ?_)
  refine gl_yes rfl rfl (op_rd rfl (rd_nilCheck rfl) ?_)
  refine gl_yes rfl rfl (op_rd rfl (rd_fieldAddr rfl (fa_81_0 _)) ?_)
  refine gl_yes rfl rfl (op_rd rfl (rd_load Try.underlying4 rfl rfl (by first | exact ld_blk 0 rfl rfl | exact ld_blk 2 rfl rfl | exact ld_rowN 3 rfl (get_bools (by omega)) | exact ld_rowN 4 rfl (get_bools (by omega)) | exact ld_slN (by assumption) (get_bools (by omega)) | exact ld_old (by assumption) (by simp) | exact ld_cells (by assumption) (by simp) rfl)) ?_)
  refine gl_yes rfl rfl (op_rd rfl (rd_not rfl) ?_)
  refine gl_op (op_rd rfl (rd_pick_f rfl rfl) ?_)
  refine gl_nil ?_
  refine gx_then ?_
  refine gc_cond_f rfl ?_
  refine gc_skip ?_
  refine gx_then ?_
  refine gc_seq ?_
  refine gc_seq ?_
  refine gc_region ?_
  refine gl_op (op_rd rfl (rd_move rfl) ?_)
  refine gl_op (op_rd rfl (rd_lss rfl rfl) (gk_dec (fun h17 => ?_) (fun h17 => ?_)))
  · skip
    exfalso; omega
  · skip
    refine gl_op (op_rd rfl (rd_move rfl) ?_)
    refine gl_yes rfl rfl (op_rd rfl (rd_move rfl) ?_)
    refine gl_yes rfl rfl (op_rd rfl (rd_gtr rfl rfl) (gk_dec (fun h20 => ?_) (fun h20 => ?_)))
    · skip
      exfalso; omega
    · skip
      refine gl_op (op_rd rfl (rd_pick_f rfl rfl) ?_)
      refine gl_nil ?_
      refine gx_then ?_
      refine gc_cond_f rfl ?_
      refine gc_skip ?_
      refine gx_then ?_
      refine gc_seq ?_
      refine gc_seq ?_
      refine gc_region ?_
      refine gl_op (op_rd rfl (rd_move rfl) ?_)
      refine gl_op (op_call rfl (vf := []) (vc := []) rfl rfl Try.call41 (fun w1 ho => ready_q f hf bs bf rb cb rp cp id bm num free w1 (ho.blkCells 0 rfl) (ho.blkCells 2 rfl)) ?_)
      rintro _ _ ⟨rfl, rfl⟩
      rw [hrd]
      refine gl_op (op_rd rfl (rd_assign rfl) ?_)
      refine gl_nil ?_
      refine gx_then ?_
      refine gc_seq ?_
      refine gc_region ?_
      refine gl_op (op_rd rfl (rd_move rfl) ?_)
      refine gl_op (op_rd rfl (rd_neq rfl rfl) (gk_dec (fun h25 => ?_) (fun h25 => ?_)))
      · skip
        exact absurd rfl h25
      · skip
        refine gl_nil ?_
        refine gx_then ?_
        refine gc_cond_f rfl ?_
        refine gc_skip ?_
        refine gx_then ?_
        refine gc_seq ?_
        refine gc_region ?_
        refine gl_op (op_rd rfl (rd_move rfl) ?_)
        refine gl_op (op_rd rfl (rd_nilCheck rfl) ?_)
        refine gl_op (op_rd rfl (rd_fieldAddr rfl (fa_81_3 _)) ?_)
        refine gl_op (op_rd rfl (rd_load Try.underlying78 rfl rfl (by first | exact ld_blk 0 rfl rfl | exact ld_blk 2 rfl rfl | exact ld_old (by assumption) (by simp) | exact ld_cells (by assumption) (by simp) rfl)) ?_)
        refine gl_op (op_rd rfl (rd_move rfl) ?_)
        refine gl_op (op_rd rfl (rd_lookupV 1 hkv rfl Try.underlying78 Try.underlying3 ty_96 rfl rfl) ?_)
        rw [hv]
        refine gl_op (op_rd rfl (rd_field rfl (fd_96_0 _ _ _ _ _ _ _)) ?_)
        refine gl_op (op_rd rfl (rd_field rfl (fd_92_2 _ _ _ _ _)) ?_)
        refine gl_op (op_call rfl (vf := []) (vc := []) rfl rfl Try.call42 (fun w2 ho => Clone_ok val av cv w2 (hval.at ho) hvl) ?_)
        rintro _ _ ⟨rc, cc, rfl, rfl⟩
        refine gl_op (op_rd rfl (rd_assign rfl) ?_)
        refine gl_op (op_rd rfl (rd_assign rfl) ?_)
        refine gl_nil ?_
        refine gx_then ?_
        refine gc_ret ?_
        refine gx_ret2 (.inl rfl) Try.results12 rfl rfl [1, 2, 3, 4, 5, 0] (by decide) ?_
        exact ⟨rc, cc, rfl, rfl⟩

set_option maxRecDepth 100000 in
set_option maxHeartbeats 1000000 in
theorem Room_ok (f : Fl) (hf : f.Ok) (bs bf : Nat) (rb : Option Nat) (cb : Nat) (rp : Option Nat) (cp : Nat) (id bm num : Nat) (free : Int) (es : List MapEntry) (nb : Nat) (m : List (Int × Value)) (hkv : KV es m) (S : List Nat) (w0 : World) (hown : Own w0 S w0 (.blk bs [.bool true, .pointer (some ⟨bf, 0, none⟩), natV id, .map (some bm), .int .u32 (num : Nat), .int .i64 free] 81 :: .obj bm (.map es.toArray nb) :: FlH bf rb cb rp cp f)) (hrd : readyP f id = 0) (hes : es.length ≤ 10 * (f.b.length / 256 - 2)) : Sp Try.prog 34 [.pointer (some ⟨bs, 0, none⟩)] w0 S (fun v L => v = .tuple #[natV (10 * (f.b.length / 256 - 2) - es.length), .int .i64 0] ∧ L = (.blk bs [.bool true, .pointer (some ⟨bf, 0, none⟩), natV id, .map (some bm), .int .u32 (num : Nat), .int .i64 free] 81 :: .obj bm (.map es.toArray nb) :: FlH bf rb cb rp cp f)) := by
  have hbl := hf.hi
  refine spec_enter Try.func34 rfl Try.ntmps34 rfl hown ?_
  simp only [argEnv]
  refine gc_seq ?_
  refine gc_region ?_
  refine gl_op (op_rd rfl (rd_assign rfl) ?_)
  refine gl_op (op_rd rfl (rd_assign rfl) ?_)
  refine gl_nil ?_
  refine gx_then ?_
  refine gc_seq ?_
  refine gc_seq ?_
  refine gc_region ?_
  refine gl_op (op_rd rfl (rd_move rfl) ?_)
  refine gl_op (op_call rfl (vf := []) (vc := []) rfl rfl Try.call41 (fun w1 ho => ready_q f hf bs bf rb cb rp cp id bm num free w1 (ho.blkCells 0 rfl) (ho.blkCells 2 rfl)) ?_)
  rintro _ _ ⟨rfl, rfl⟩
  rw [hrd]
  refine gl_op (op_rd rfl (rd_assign rfl) ?_)
  refine gl_nil ?_
  refine gx_then ?_
  refine gc_seq ?_
  refine gc_region ?_
  refine gl_op (op_rd rfl (rd_move rfl) ?_)
  refine gl_op (op_rd rfl (rd_neq rfl rfl) (gk_dec (fun h8 => ?_) (fun h8 => ?_)))
  · skip
    exact absurd rfl h8
  · skip
    refine gl_nil ?_
    refine gx_then ?_
    refine gc_cond_f rfl ?_
    refine gc_skip ?_
    refine gx_then ?_
    refine gc_seq ?_
    refine gc_drawP [0, 1, 2, 3, 4] true 9 rfl ?_
    refine ga_first 0 #[true, false, false, false, false, false, false, false, false, false] rfl rfl rfl rfl (by kernel_rfl) rfl ⟨[0, 1, 2, 3, 4], by decide, rfl⟩ (qt_rd (rd_move rfl)) ?_
    refine ga_first 1 #[true, true, false, false, false, false, false, false, false, false] rfl rfl rfl rfl (by kernel_rfl) rfl ⟨[0, 1, 2, 3, 4], by decide, rfl⟩ (qt_call (vf := []) (vc := []) rfl rfl Try.call47 (fun w1 ho => most_q f hf bs bf rb cb rp cp id bm num free w1 (ho.blkCells 0 rfl) (ho.blkCells 2 rfl)) (by rintro _ _ ⟨h, _⟩; exact h)) ?_
    refine ga_first 2 #[true, true, true, false, false, false, false, false, false, false] rfl rfl rfl rfl (by kernel_rfl) rfl ⟨[0, 1, 2, 3, 4], by decide, rfl⟩ (qt_rd (rd_move rfl)) ?_
    refine ga_first 3 #[true, true, true, true, false, false, false, false, false, false] rfl rfl rfl rfl (by kernel_rfl) rfl ⟨[0, 1, 2, 3, 4], by decide, rfl⟩ (qt_rd (rd_nilCheck rfl)) ?_
    refine ga_first 4 #[true, true, true, true, true, false, false, false, false, false] rfl rfl rfl rfl (by kernel_rfl) rfl ⟨[0, 1, 2, 3, 4], by decide, rfl⟩ (qt_rd (rd_fieldAddr rfl (fa_81_3 _))) ?_
    refine ga_first 5 #[true, true, true, true, true, true, false, false, false, false] rfl rfl rfl rfl (by kernel_rfl) rfl ⟨[0, 1, 2, 3, 4], by decide, rfl⟩ (qt_rd (rd_load Try.underlying78 rfl rfl (by first | exact ld_blk 0 rfl rfl | exact ld_blk 2 rfl rfl | exact ld_old (by assumption) (by simp) | exact ld_cells (by assumption) (by simp) rfl))) ?_
    refine ga_first 6 #[true, true, true, true, true, true, true, false, false, false] rfl rfl rfl rfl (by kernel_rfl) rfl ⟨[0, 1, 2, 3, 4], by decide, rfl⟩ (qt_rd (rd_lenMap 1 rfl Try.underlying78 rfl)) ?_
    refine ga_first 7 #[true, true, true, true, true, true, true, true, false, false] rfl rfl rfl rfl (by kernel_rfl) rfl ⟨[0, 1, 2, 3, 4], by decide, rfl⟩ (qt_rd (by first | exact rd_subN rfl rfl (by omega) (by omega) | exact rd_sub rfl rfl (by omega) (by omega))) ?_
    refine ga_first 8 #[true, true, true, true, true, true, true, true, true, false] rfl rfl rfl rfl (by kernel_rfl) rfl ⟨[0, 1, 2, 3, 4], by decide, rfl⟩ (qt_rd (rd_assign rfl)) ?_
    refine ga_first 9 #[true, true, true, true, true, true, true, true, true, true] rfl rfl rfl rfl (by kernel_rfl) rfl ⟨[0, 1, 2, 3, 4], by decide, rfl⟩ (qt_rd (rd_assign rfl)) ?_
    refine ga_end (by kernel_rfl) (.inr ⟨[0, 1, 2, 3, 4], by decide, rfl⟩) ?_
    refine gx_then ?_
    refine gc_ret ?_
    refine gx_ret2 (.inl rfl) Try.results34 rfl rfl [0, 1, 2, 3, 4] (by decide) ?_
    exact ⟨rfl, rfl⟩

end Go.Proofs.Ythcbcdjkfefnlaa

set_option autoImplicit false
set_option linter.unusedVariables false
namespace Go.Proofs.Ythcbcdjkfefnlaa
open Go.Gv
open Go.RowKit
open Iv
theorem eg_9 : Try.prog.eqGuardType Try.prog.depth 9 = false := by kernel_rfl
namespace Iv
/-- a flash that is new -/
structure Fresh (f : Fl) (n : Nat) : Prop where
  ok : f.Ok
  dn : f.down = false
  left : f.left = -1
  bl : f.b = List.replicate f.b.length 255
  len : f.b.length = 256 * n
  pr : f.pr = 0
  er : f.er = 0
theorem new_fresh {n : Nat} (h4 : 4 ≤ n) (h64 : n ≤ 64) : Fresh (flNew (List.replicate (256 * n) 255)) n := by
  have hl : (flNew (List.replicate (256 * n) 255)).b.length = 256 * n := List.length_replicate
  refine ⟨⟨fun z hz => ?_, (fun z hz => by cases hz), by rw [hl]; omega, by rw [hl]; omega, by rw [hl]; omega, Nat.zero_le _, (by decide : (0 : Nat) < 4611686018427387904), (by decide : (0 : Nat) < 4611686018427387904), (by decide : (0 : Nat) < 4611686018427387904), (by decide : (-1 : Int) ≤ -1), (by decide : (-1 : Int) ≤ 9223372036854775807)⟩, rfl, rfl, by rw [hl]; rfl, hl, rfl, rfl⟩
  rw [List.eq_of_mem_replicate hz]; decide
end Iv

theorem ab_eq : ((strN [97, 98]).toList == ByteArray.toList ⟨#[97, 98]⟩) = true := by
  simp [strN, strOfNums, ByteArray.toList_eq]

set_option maxRecDepth 100000 in
set_option maxHeartbeats 2000000 in
theorem shown_ok (w0 : World) : Sp Try.prog 9 [] w0 [] (RV (.bool true)) := by
  refine spec_enter Try.func9 rfl Try.ntmps9 rfl (Own.refl _) ?_
  simp only [argEnv]
  refine gc_seq ?_
  refine gc_region ?_
  refine gl_op (op_rd rfl (rd_assign rfl) ?_)
  refine gl_nil ?_
  refine gx_then ?_
  refine gc_seq ?_
  refine gc_region ?_
  refine gl_op (op_call rfl (vf := []) (vc := []) rfl rfl Try.call10 (fun w2 ho => New_ok 4 (by decide) (by decide) w2) ?_)
  rintro _ _ ⟨bf, rb, cb, rfl, rfl⟩
  obtain ⟨f0, hf0⟩ : ∃ f, flNew (List.replicate (256 * 4) 255) = f := ⟨_, rfl⟩
  have hfr0 := new_fresh (n := 4) (by decide) (by decide)
  rw [hf0] at hfr0
  obtain ⟨hf0o, hd0, hl0, hb0, hn0, hp0, he0⟩ := hfr0
  have hs0 : f0.st = 0 := by rw [← hf0]; rfl
  rw [show flNew (List.replicate (256 * 4) 255) = f0 from hf0]
  refine gl_op (op_rd rfl (rd_move rfl) ?_)
  refine gl_op (op_rd rfl (rd_extract rfl rfl) ?_)
  refine gl_op (op_rd rfl (rd_extract rfl rfl) ?_)
  refine gl_op (op_rd rfl (rd_assign rfl) ?_)
  refine gl_op (op_rd rfl (rd_assign rfl) ?_)
  refine gl_nil ?_
  refine gx_then ?_
  refine gc_seq ?_
  refine gc_region ?_
  refine gl_op (op_rd rfl (rd_move rfl) ?_)
  refine gl_op (op_callM [0, 1, 2] [] rfl (vf := []) (vc := []) rfl rfl Try.call11 (by decide) rfl (fun w how hc => Open_blank f0 hf0o bf rb cb none 0 _ w hc (by omega) hd0 hb0) ?_)
  rintro _ _ ⟨bs, bm, rfl, rfl⟩
  obtain ⟨f1, hf1⟩ : ∃ f, ({ f0 with st := f0.st + 1 } : Fl) = f := ⟨_, rfl⟩
  obtain ⟨fr, hfre⟩ : ∃ fr, ((f0.b.length / 256 : Nat) : Int) - 1 = fr := ⟨_, rfl⟩
  rw [hf1, hfre]
  have hf1o : f1.Ok := by rw [← hf1]; exact ⟨hf0o.bs, hf0o.ps, hf0o.len, hf0o.lo, hf0o.hi, hf0o.pl, hf0o.pr, hf0o.er, by simp only; omega, hf0o.l0, hf0o.l1⟩
  have hd1 : f1.down = false := by rw [← hf1]; exact hd0
  have hl1 : f1.left = -1 := by rw [← hf1]; exact hl0
  have hb1 : f1.b = List.replicate f1.b.length 255 := by rw [← hf1]; exact hb0
  have hn1 : f1.b.length = 1024 := by rw [← hf1]; exact hn0
  have hp1 : f1.pr = 0 := by rw [← hf1]; exact hp0
  have hid1 : f0.st + 1 = f1.st := by rw [← hf1]
  have hfr : fr ≠ 0 := by omega
  refine gl_op (op_rd rfl (rd_move rfl) ?_)
  refine gl_op (op_rd rfl (rd_extract rfl rfl) ?_)
  refine gl_op (op_rd rfl (rd_extract rfl rfl) ?_)
  refine gl_op (op_rd rfl (rd_assign rfl) ?_)
  refine gl_op (op_rd rfl (rd_assign rfl) ?_)
  refine gl_nil ?_
  refine gx_then ?_
  refine gc_seq ?_
  refine gc_seq ?_
  refine gc_region ?_
  refine gl_op (op_rd rfl (rd_move rfl) ?_)
  refine gl_op (op_rd rfl (rd_neq rfl rfl) (gk_dec (fun h19 => ?_) (fun h19 => ?_)))
  · skip
    exact absurd rfl h19
  · skip
    refine gl_op (op_rd rfl (rd_move rfl) ?_)
    refine gl_yes rfl rfl (op_rd rfl (rd_move rfl) ?_)
    refine gl_yes rfl rfl (op_rd rfl (rd_neq rfl rfl) (gk_dec (fun h22 => ?_) (fun h22 => ?_)))
    · skip
      exact absurd rfl h22
    · skip
      refine gl_op (op_rd rfl (rd_pick_f rfl rfl) ?_)
      refine gl_op (op_rd rfl (rd_move rfl) ?_)
      refine gl_yes rfl rfl (op_rd rfl (rd_move rfl) ?_)
      refine gl_yes rfl rfl (op_buildSlice (sz := 1) rfl rfl (fun _ => bs_36_2_0_1 _ _) rfl rfl (fun b26 => ?_))
      refine gl_yes rfl rfl (op_convConst 0 Try.underlying36 Try.underlying5 rfl rfl rfl (by first | rfl | (simp only [List.set_cons_succ, List.set_cons_zero]; exact rfl)) ?_)
      refine gl_yes rfl rfl (op_callM [1, 2, 3, 4, 5] [0] rfl (vf := []) (vc := []) rfl rfl Try.call17 (by decide) rfl (fun w how hc => Put0_ok f1 hf1o bs bf rb cb none 0 (f0.st + 1) bm 0 fr _ w hc (by omega) hl1 hd1 hid1 (by decide) hb1 hfr 3 (by decide) [97, 98] (by decide) (by decide) (by decide) (some ⟨b26, 0, none⟩) 2 (objOut how 0 [1, 2, 3, 4, 5] rfl rfl (by decide))) ?_)
      rintro _ _ ⟨gv, cv, rfl, rfl⟩
      obtain ⟨o1, o2, o3, o4, o5⟩ := wr_ok hf1o (o := 0 * 256 + 0 * 24) (bs := packP 3 (0 + 1) [97, 98]) (pack_lt (by decide) (by decide) (by decide)) (packP 3 (0 + 1) [97, 98]).length (by rw [pack_len (by decide)]; omega)
      obtain ⟨w1, w2, w3, w4⟩ := wr_no hl1 hd1 (o := 0 * 256 + 0 * 24) (bs := packP 3 (0 + 1) [97, 98]) (packP 3 (0 + 1) [97, 98]).length (by rw [pack_len (by decide)]; omega)
      change Fl.Ok (writeP f1 (0 * 256 + 0 * 24) (packP 3 (0 + 1) [97, 98])).1 at o1
      change (writeP f1 (0 * 256 + 0 * 24) (packP 3 (0 + 1) [97, 98])).1.b.length = _ at o3
      change (writeP f1 (0 * 256 + 0 * 24) (packP 3 (0 + 1) [97, 98])).1.st = _ at o5
      change (writeP f1 (0 * 256 + 0 * 24) (packP 3 (0 + 1) [97, 98])).1.down = _ at w3
      obtain ⟨f2, hf2⟩ : ∃ f2, (writeP f1 (0 * 256 + 0 * 24) (packP 3 (0 + 1) [97, 98])).1 = f2 := ⟨_, rfl⟩
      rw [hf2] at o1 o3 o5 w3
      rw [hf2]
      have hrd2 : readyP f2 (f0.st + 1) = 0 := by unfold readyP; rw [if_neg (by rw [w3]; decide), if_neg (by omega)]
      refine gl_yes rfl rfl (op_rd rfl (rd_neq rfl rfl) (gk_dec (fun h29 => ?_) (fun h29 => ?_)))
      · skip
        exact absurd rfl h29
      · skip
        refine gl_op (op_rd rfl (rd_pick_f rfl rfl) ?_)
        refine gl_nil ?_
        refine gx_then ?_
        refine gc_cond_f rfl ?_
        refine gc_skip ?_
        refine gx_then ?_
        refine gc_seq ?_
        refine gc_region ?_
        refine gl_op (op_rd rfl (rd_move rfl) ?_)
        refine gl_op (op_callM [0, 1, 2, 3, 4] [5, 6] rfl (vf := []) (vc := []) rfl rfl Try.call12 (by decide) rfl (fun w how hc => Get_ok f2 o1 bs bf rb cb none 0 (f0.st + 1) bm (0 + 1) fr [(⟨natV 3, .agg #[natV 3, .int .u32 ((0 + 1 : Nat) : Int), .slice (rowA (some gv)) ([97, 98] : List Nat).length cv, natV 0, natV 0], 0⟩ : MapEntry)] 1 [(3, (.agg #[natV 3, .int .u32 ((0 + 1 : Nat) : Int), .slice (rowA (some gv)) ([97, 98] : List Nat).length cv, natV 0, natV 0] : Value))] rfl _ w hc hrd2 3 (by decide) 3 (0 + 1) 0 0 [97, 98] (rowA (some gv)) cv rfl (rowOut how 5 [0, 1, 2, 3, 4] rfl (by decide)) (by decide)) ?_)
        rintro _ _ ⟨rg, cg, rfl, rfl⟩
        refine gl_op (op_rd rfl (rd_move rfl) ?_)
        refine gl_op (op_rd rfl (rd_extract rfl rfl) ?_)
        refine gl_op (op_rd rfl (rd_extract rfl rfl) ?_)
        refine gl_op (op_rd rfl (rd_assign rfl) ?_)
        refine gl_op (op_rd rfl (rd_assign rfl) ?_)
        refine gl_nil ?_
        refine gx_then ?_
        refine gc_seq ?_
        refine gc_region ?_
        refine gl_op (op_rd rfl (rd_move rfl) ?_)
        refine gl_op (op_callM [0, 1, 2, 3, 4] [5, 6, 7] rfl (vf := []) (vc := []) rfl rfl Try.call12 (by decide) rfl (fun w how hc => Get_ok f2 o1 bs bf rb cb none 0 (f0.st + 1) bm (0 + 1) fr [(⟨natV 3, .agg #[natV 3, .int .u32 ((0 + 1 : Nat) : Int), .slice (rowA (some gv)) ([97, 98] : List Nat).length cv, natV 0, natV 0], 0⟩ : MapEntry)] 1 [(3, (.agg #[natV 3, .int .u32 ((0 + 1 : Nat) : Int), .slice (rowA (some gv)) ([97, 98] : List Nat).length cv, natV 0, natV 0] : Value))] rfl _ w hc hrd2 4 (by decide) 0 0 0 0 [] none 0 rfl (oldNil _ _ 1) (by decide)) ?_)
        rintro _ _ ⟨rh, ch, rfl, rfl⟩
        refine gl_op (op_rd rfl (rd_move rfl) ?_)
        refine gl_op (op_rd rfl (rd_extract rfl rfl) ?_)
        refine gl_op (op_rd rfl (rd_extract rfl rfl) ?_)
        refine gl_op (op_rd rfl (rd_assign rfl) ?_)
        refine gl_op (op_rd rfl (rd_assign rfl) ?_)
        refine gl_nil ?_
        refine gx_then ?_
        refine gc_seq ?_
        refine gc_region ?_
        refine gl_op (op_rd rfl (rd_move rfl) ?_)
        refine gl_op (op_callM [0, 1, 2, 3, 4] [5, 6, 7, 8] rfl (vf := []) (vc := []) rfl rfl Try.call34 (by decide) rfl (fun w how hc => Room_ok f2 o1 bs bf rb cb none 0 (f0.st + 1) bm (0 + 1) fr [(⟨natV 3, .agg #[natV 3, .int .u32 ((0 + 1 : Nat) : Int), .slice (rowA (some gv)) ([97, 98] : List Nat).length cv, natV 0, natV 0], 0⟩ : MapEntry)] 1 [(3, (.agg #[natV 3, .int .u32 ((0 + 1 : Nat) : Int), .slice (rowA (some gv)) ([97, 98] : List Nat).length cv, natV 0, natV 0] : Value))] rfl _ w hc hrd2 (by rw [o3, hn1]; show 1 ≤ 20; decide)) ?_)
        rintro _ _ ⟨rfl, rfl⟩
        rw [show 10 * (f2.b.length / 256 - 2) - ([(⟨natV 3, .agg #[natV 3, .int .u32 ((0 + 1 : Nat) : Int), .slice (rowA (some gv)) ([97, 98] : List Nat).length cv, natV 0, natV 0], 0⟩ : MapEntry)] : List MapEntry).length = 19 by rw [o3, hn1]; rfl]
        refine gl_op (op_rd rfl (rd_move rfl) ?_)
        refine gl_op (op_rd rfl (rd_extract rfl rfl) ?_)
        refine gl_op (op_rd rfl (rd_extract rfl rfl) ?_)
        refine gl_op (op_rd rfl (rd_assign rfl) ?_)
        refine gl_op (op_rd rfl (rd_assign rfl) ?_)
        refine gl_nil ?_
        refine gx_then ?_
        refine gc_seq ?_
        refine gc_region ?_
        refine gl_op (op_rd rfl (rd_move rfl) ?_)
        refine gl_op (op_rd rfl (rd_toStr (zs := [97, 98]) Try.underlying36 Try.underlying5 Try.underlying9 rfl (fun w ho => ho.rowSl 6 rfl)) ?_)
        refine gl_op (op_rd rfl (rd_eqlStr Try.underlying9 eg_9 rfl rfl) ?_)
        rw [ab_eq]
        refine gl_op (op_rd rfl (rd_move rfl) ?_)
        refine gl_yes rfl rfl (op_rd rfl (rd_move rfl) ?_)
        refine gl_yes rfl rfl (op_rd rfl (rd_lenSlice Try.underlying36 rfl) ?_)
        refine gl_yes rfl rfl (op_rd rfl (rd_eql rfl rfl) (gk_dec (fun hd1 => ?_) (fun hd1 => ?_)))
        · skip
          refine gl_op (op_rd rfl (rd_pick_t rfl rfl) ?_)
          refine gl_op (op_rd rfl (rd_move rfl) ?_)
          refine gl_yes rfl rfl (op_rd rfl (rd_move rfl) ?_)
          refine gl_yes rfl rfl (op_rd rfl (rd_eql rfl rfl) (gk_dec (fun hd2 => ?_) (fun hd2 => ?_)))
          · skip
            refine gl_op (op_rd rfl (rd_pick_t rfl rfl) ?_)
            refine gl_op (op_rd rfl (rd_move rfl) ?_)
            refine gl_yes rfl rfl (op_rd rfl (rd_move rfl) ?_)
            refine gl_yes rfl rfl (op_rd rfl (rd_eql rfl rfl) (gk_dec (fun hd3 => ?_) (fun hd3 => ?_)))
            · skip
              refine gl_op (op_rd rfl (rd_pick_t rfl rfl) ?_)
              refine gl_op (op_rd rfl (rd_move rfl) ?_)
              refine gl_yes rfl rfl (op_rd rfl (rd_move rfl) ?_)
              refine gl_yes rfl rfl (op_rd rfl (rd_eql rfl rfl) (gk_dec (fun hd4 => ?_) (fun hd4 => ?_)))
              · skip
                refine gl_op (op_rd rfl (rd_pick_t rfl rfl) ?_)
                refine gl_op (op_rd rfl (rd_move rfl) ?_)
                refine gl_yes rfl rfl (op_rd rfl (rd_move rfl) ?_)
                refine gl_yes rfl rfl (op_rd rfl (rd_eql rfl rfl) ?_)
                refine gl_op (op_rd rfl (rd_pick_t rfl rfl) ?_)
                refine gl_op (op_rd rfl (rd_assign rfl) ?_)
                refine gl_nil ?_
                refine gx_then ?_
                refine gc_ret ?_
                refine gx_ret1 (.inl rfl) Try.results9 rfl [] (by decide) ?_
                exact ⟨rfl, rfl⟩
              · skip
                exact absurd rfl (by assumption)
            · skip
              exact absurd rfl (by assumption)
          · skip
            exact absurd rfl (by assumption)
        · skip
          exact absurd rfl (by assumption)

end Go.Proofs.Ythcbcdjkfefnlaa

set_option autoImplicit false
set_option linter.unusedVariables false
namespace Go.Proofs.Ythcbcdjkfefnlaa
open Go.Gv
open Go.RowKit
open Iv
namespace Iv
theorem restart_okP {f : Fl} (hf : f.Ok) : (flRestart f).Ok := ⟨hf.bs, (fun z hz => by cases hz), hf.len, hf.lo, hf.hi, Nat.zero_le _, hf.pr, hf.er, hf.st, (by decide : (-1 : Int) ≤ -1), (by decide : (-1 : Int) ≤ 9223372036854775807)⟩
theorem erase_okP {f : Fl} (hf : f.Ok) (he : f.er + 1 < 4611686018427387904) (at_ : Int) : (flErase f at_).1.Ok ∧ (flErase f at_).1.er ≤ f.er + 1 ∧ (flErase f at_).1.b.length = f.b.length ∧ (flErase f at_).1.st = f.st ∧ (flErase f at_).1.pr = f.pr := by
  unfold flErase
  split
  · exact ⟨hf, Nat.le_succ _, rfl, rfl, rfl⟩
  · rename_i h
    have hat : 0 ≤ at_ ∧ at_ < ((f.b.length / 256 : Nat) : Int) := by
      unfold flBegins at h
      split at h
      · exact absurd (by decide) h
      · split at h
        · exact absurd (by decide) h
        · omega
    have hlm := hf.len
    obtain ⟨s1, s2, s3⟩ := flFails_st { f with er := f.er + 1 }
    obtain ⟨l0, l1⟩ := flFails_left (f := { f with er := f.er + 1 }) hf.l0 hf.l1
    have hpk := flFails_picks { f with er := f.er + 1 }
    unfold flErase1
    have hbb : ∀ z ∈ (if !(flFails { f with er := f.er + 1 }).down || decide (f.picks.length = 0) then f.b.take (at_.toNat * 256) ++ List.replicate 256 255 ++ f.b.drop (at_.toNat * 256 + 256) else orTo f.picks f.b (at_.toNat * 256) 256), z < 256 := by
      split
      · intro z hz
        rcases List.mem_append.1 hz with hz | hz
        · rcases List.mem_append.1 hz with hz | hz
          · exact hf.bs z (List.mem_of_mem_take hz)
          · rw [List.eq_of_mem_replicate hz]; decide
        · exact hf.bs z (List.mem_of_mem_drop hz)
      · exact orTo_lt hf.bs hf.ps _ _
    have hbl : (if !(flFails { f with er := f.er + 1 }).down || decide (f.picks.length = 0) then f.b.take (at_.toNat * 256) ++ List.replicate 256 255 ++ f.b.drop (at_.toNat * 256 + 256) else orTo f.picks f.b (at_.toNat * 256) 256).length = f.b.length := by
      split
      · simp only [List.length_append, List.length_take, List.length_replicate, List.length_drop]; omega
      · exact orTo_len _ _ _ _
    generalize (if !(flFails { f with er := f.er + 1 }).down || decide (f.picks.length = 0) then f.b.take (at_.toNat * 256) ++ List.replicate 256 255 ++ f.b.drop (at_.toNat * 256 + 256) else orTo f.picks f.b (at_.toNat * 256) 256) = B at hbb hbl ⊢
    have hpr := hf.pr
    have hst := hf.st
    refine ⟨⟨hbb, by rw [hpk]; exact hf.ps, by simp only [hbl]; exact hf.len, by simp only [hbl]; exact hf.lo, by simp only [hbl]; exact hf.hi, by rw [hpk]; exact hf.pl, ?_, ?_, ?_, l0, l1⟩, ?_, hbl, s1, s2⟩
    · simp only [s2]; exact hpr
    · simp only [s3]; exact he
    · simp only [s1]; exact hst
    · simp only [s3]; exact Nat.le_refl _
def K0 : Fl := flNew (List.replicate (256 * 4) 255)
def K1 : Fl := (flProg K0 5 15).1
def K2 : Fl := (flProg K1 5 243).1
def K3 : Fl := (flFuse K2 1 [48]).1
def K4 : Fl := (flProg K3 6 143).1
def K5 : Fl := (flProg K4 7 15).1
def K6 : Fl := flRestart K5
def K7 : Fl := (flErase K6 0).1
def K8 : Fl := (flFuse K7 0 [1, 128]).1
def K9 : Fl := (flProg K8 8 0).1
def K10 : Fl := flRestart K9
end Iv
end Go.Proofs.Ythcbcdjkfefnlaa

set_option autoImplicit false
set_option linter.unusedVariables false
namespace Go.Proofs.Ythcbcdjkfefnlaa
open Go.Gv
open Go.RowKit
open Iv
namespace Iv
section
variable {P : Program} {n : Nat} {e : Env} {w0 : World} {S : List Nat} {l : List HL} {dst : Option Tmp} {ty : TypeId} {pos : String} {aft : Array Edge} {gd : Option (Nat × Bool)} {x y : Operand} {t ty' : TypeId}
theorem rd_neqNilPt {E : TypeId} {a : Option Addr} (hgt : P.eqGuardType P.depth t = false) (hu : P.underlying t = some (.pointer E)) (hx : e.ev x = some (.pointer a)) (hy : e.ev y = some (.pointer none)) : Rd P n e w0 S l ⟨dst, .binOp .neq t x y ty', ty, pos, aft, gd⟩ (.bool (!a.isNone)) :=
  fun ac w hs ho => by
    have h := run_equalInPt (P := P) 9999 hu a w
    have h2 : (Op.equal t (.pointer a) (.pointer none)).run P w = .ok a.isNone w := h
    simp [execOp, hs.ev hx, hs.ev hy, eqGuard, binOp, hgt, h2]
end
/-- no flash, no store: nil, or not made -/
def NoP (w : World) (p : Option Addr) : Prop := p = none ∨ ∃ ad cs, p = some ad ∧ Cells w ad (.bool false :: cs)
theorem NoP.at {w0 w : World} {l : List HL} {p : Option Addr} (h : NoP w0 p) (ho : Own w0 [] w l) : NoP w p := by
  rcases h with h | ⟨ad, cs, h1, h2⟩
  · exact .inl h
  · exact .inr ⟨ad, cs, h1, h2.at ho⟩
end Iv

namespace Iv
end Iv

end Go.Proofs.Ythcbcdjkfefnlaa
