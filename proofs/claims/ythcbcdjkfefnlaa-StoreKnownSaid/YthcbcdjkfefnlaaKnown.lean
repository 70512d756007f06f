import Derived.Test.YthcbcdjkfefnlaaSc
import Derived.Test.YthcbcdjkfefnlaaSr
/- This text proves StoreKnownSaid: StoreKnown returns true. -/
set_option linter.unusedSimpArgs false
set_option linter.unusedVariables false
set_option linter.unnecessarySimpa false
set_option autoImplicit false
set_option linter.unusedVariables false
namespace Go.Proofs.Ythcbcdjkfefnlaa
open Go.Gv
open Go.RowKit
open Iv
namespace Iv
theorem fuse_okP {f : Fl} (hf : f.Ok) {n : Int} (hn : n ≤ 9223372036854775807) {ps : List Nat} (hps : ∀ z ∈ ps, z < 256) : (flFuse f n ps).1.Ok := by
  unfold flFuse
  split
  · exact hf
  · rename_i h
    split
    · exact hf
    · exact ⟨hf.bs, hps, hf.len, hf.lo, hf.hi, by simp only; omega, hf.pr, hf.er, hf.st, by simp only; omega, hn⟩
theorem restart_okP {f : Fl} (hf : f.Ok) : (flRestart f).Ok := ⟨hf.bs, (fun z hz => by cases hz), hf.len, hf.lo, hf.hi, Nat.zero_le _, hf.pr, hf.er, hf.st, (by decide : (-1 : Int) ≤ -1), (by decide : (-1 : Int) ≤ 9223372036854775807)⟩
theorem erase_okP {f : Fl} (hf : f.Ok) (he : f.er + 1 < 4611686018427387904) (at_ : Int) : (flErase f at_).1.Ok ∧ (flErase f at_).1.er ≤ f.er + 1 ∧ (flErase f at_).1.b.length = f.b.length ∧ (flErase f at_).1.st = f.st ∧ (flErase f at_).1.pr = f.pr := by
  unfold flErase
  split
  · exact ⟨hf, Nat.le_succ _, rfl, rfl, rfl⟩
  · rename_i h
    have hat : 0 ≤ at_ ∧ at_ < ((f.b.length / 256 : Nat) : Int) := by
      unfold flBegins at h
      split at h
      · exact absurd (by decide) h
      · split at h
        · exact absurd (by decide) h
        · omega
    have hlm := hf.len
    obtain ⟨s1, s2, s3⟩ := flFails_st { f with er := f.er + 1 }
    obtain ⟨l0, l1⟩ := flFails_left (f := { f with er := f.er + 1 }) hf.l0 hf.l1
    have hpk := flFails_picks { f with er := f.er + 1 }
    unfold flErase1
    have hbb : ∀ z ∈ (if !(flFails { f with er := f.er + 1 }).down || decide (f.picks.length = 0) then f.b.take (at_.toNat * 256) ++ List.replicate 256 255 ++ f.b.drop (at_.toNat * 256 + 256) else orTo f.picks f.b (at_.toNat * 256) 256), z < 256 := by
      split
      · intro z hz
        rcases List.mem_append.1 hz with hz | hz
        · rcases List.mem_append.1 hz with hz | hz
          · exact hf.bs z (List.mem_of_mem_take hz)
          · rw [List.eq_of_mem_replicate hz]; decide
        · exact hf.bs z (List.mem_of_mem_drop hz)
      · exact orTo_lt hf.bs hf.ps _ _
    have hbl : (if !(flFails { f with er := f.er + 1 }).down || decide (f.picks.length = 0) then f.b.take (at_.toNat * 256) ++ List.replicate 256 255 ++ f.b.drop (at_.toNat * 256 + 256) else orTo f.picks f.b (at_.toNat * 256) 256).length = f.b.length := by
      split
      · simp only [List.length_append, List.length_take, List.length_replicate, List.length_drop]; omega
      · exact orTo_len _ _ _ _
    generalize (if !(flFails { f with er := f.er + 1 }).down || decide (f.picks.length = 0) then f.b.take (at_.toNat * 256) ++ List.replicate 256 255 ++ f.b.drop (at_.toNat * 256 + 256) else orTo f.picks f.b (at_.toNat * 256) 256) = B at hbb hbl ⊢
    have hpr := hf.pr
    have hst := hf.st
    refine ⟨⟨hbb, by rw [hpk]; exact hf.ps, by simp only [hbl]; exact hf.len, by simp only [hbl]; exact hf.lo, by simp only [hbl]; exact hf.hi, by rw [hpk]; exact hf.pl, ?_, ?_, ?_, l0, l1⟩, ?_, hbl, s1, s2⟩
    · simp only [s2]; exact hpr
    · simp only [s3]; exact he
    · simp only [s1]; exact hst
    · simp only [s3]; exact Nat.le_refl _
def K0 : Fl := flNew (List.replicate (256 * 4) 255)
def K1 : Fl := (flProg K0 5 15).1
def K2 : Fl := (flProg K1 5 243).1
def K3 : Fl := (flFuse K2 1 [48]).1
def K4 : Fl := (flProg K3 6 143).1
def K5 : Fl := (flProg K4 7 15).1
def K6 : Fl := flRestart K5
def K7 : Fl := (flErase K6 0).1
def K8 : Fl := (flFuse K7 0 [1, 128]).1
def K9 : Fl := (flProg K8 8 0).1
def K10 : Fl := flRestart K9
set_option maxRecDepth 100000 in
theorem known_all : ∃ k0 k1 k2 k3 k4 k5 k6 k7 k8 k9 k10 : Fl, flNew (List.replicate (256 * 4) 255) = k0 ∧ (flProg k0 5 15 = (k1, 0) ∧ flProg k1 5 243 = (k2, 0) ∧ flRead k2 5 = (3, 0) ∧ flFuse k2 1 [48] = (k3, 0) ∧ flProg k3 6 143 = (k4, 0) ∧ flProg k4 7 15 = (k5, 9) ∧ k5.down = true ∧ flRead k5 7 = (0, 9)) ∧ (flRestart k5 = k6 ∧ flRead k6 7 = (63, 0) ∧ flErase k6 0 = (k7, 0) ∧ flRead k7 5 = (255, 0) ∧ flFuse k7 0 [1, 128] = (k8, 0) ∧ flProg k8 8 0 = (k9, 9) ∧ flRestart k9 = k10 ∧ flRead k10 8 = (1, 0) ∧ k10.pr = 5 ∧ k10.er = 1) ∧ (k0.Ok ∧ k1.Ok ∧ k2.Ok ∧ k3.Ok ∧ k4.Ok ∧ k5.Ok ∧ k6.Ok ∧ k7.Ok ∧ k8.Ok ∧ k9.Ok ∧ k10.Ok) := by
  have o0 : K0.Ok := (new_fresh (n := 4) (by decide) (by decide)).ok
  have o1 : K1.Ok := (prog_ok o0 (by decide +kernel) (u := 15) (by decide) 5).1
  have o2 : K2.Ok := (prog_ok o1 (by decide +kernel) (u := 243) (by decide) 5).1
  have o3 : K3.Ok := fuse_okP o2 (by decide) (by decide)
  have o4 : K4.Ok := (prog_ok o3 (by decide +kernel) (u := 143) (by decide) 6).1
  have o5 : K5.Ok := (prog_ok o4 (by decide +kernel) (u := 15) (by decide) 7).1
  have o6 : K6.Ok := restart_okP o5
  have o7 : K7.Ok := (erase_okP o6 (by decide +kernel) 0).1
  have o8 : K8.Ok := fuse_okP o7 (by decide) (by decide)
  have o9 : K9.Ok := (prog_ok o8 (by decide +kernel) (u := 0) (by decide) 8).1
  have o10 : K10.Ok := restart_okP o9
  refine ⟨K0, K1, K2, K3, K4, K5, K6, K7, K8, K9, K10, rfl, ⟨Prod.ext rfl (by decide +kernel), Prod.ext rfl (by decide +kernel), by decide +kernel, Prod.ext rfl (by decide +kernel), Prod.ext rfl (by decide +kernel), Prod.ext rfl (by decide +kernel), by decide +kernel, by decide +kernel⟩, ⟨rfl, by decide +kernel, Prod.ext rfl (by decide +kernel), by decide +kernel, Prod.ext rfl (by decide +kernel), Prod.ext rfl (by decide +kernel), rfl, by decide +kernel, by decide +kernel, by decide +kernel⟩, o0, o1, o2, o3, o4, o5, o6, o7, o8, o9, o10⟩
end Iv
end Go.Proofs.Ythcbcdjkfefnlaa

set_option autoImplicit false
set_option linter.unusedVariables false
namespace Go.Proofs.Ythcbcdjkfefnlaa
open Go.Gv
open Go.RowKit
open Iv
namespace Iv
theorem read_lt {f : Fl} (hf : f.Ok) (at_ : Int) : (flRead f at_).1 < 256 := by
  unfold flRead
  split
  · exact (by decide : (0 : Nat) < 256)
  · exact gB_lt hf.bs _
end Iv

set_option maxRecDepth 100000 in
set_option maxHeartbeats 1000000 in
theorem byteOf_ok (f : Fl) (hf : f.Ok) (bf : Nat) (rb : Option Nat) (cb : Nat) (rp : Option Nat) (cp : Nat) (S : List Nat) (w0 : World) (hown : Own w0 S w0 (FlH bf rb cb rp cp f)) (at_ : Int) : Sp Try.prog 26 [.pointer (some ⟨bf, 0, none⟩), .int .i64 at_] w0 S (fun v L => v = .int .i64 (if (flRead f at_).2 = 0 then ((flRead f at_).1 : Int) else -1) ∧ L = FlH bf rb cb rp cp f) := by
  refine spec_enter Try.func26 rfl Try.ntmps26 rfl hown ?_
  simp only [argEnv]
  refine gc_seq ?_
  refine gc_region ?_
  refine gl_op (op_rd rfl (rd_assign rfl) ?_)
  refine gl_nil ?_
  refine gx_then ?_
  refine gc_seq ?_
  refine gc_region ?_
  refine gl_op (op_rd rfl (rd_move rfl) ?_)
  refine gl_op (op_rd rfl (rd_move rfl) ?_)
  refine gl_op (op_callM [0, 1, 2] [] rfl (vf := []) (vc := []) rfl rfl Try.call31 (by decide) rfl (fun w how hc => Read_ok f hf bf rb cb rp cp _ w hc at_) ?_)
  rintro _ _ ⟨rfl, rfl⟩
  refine gl_op (op_rd rfl (rd_move rfl) ?_)
  refine gl_op (op_rd rfl (rd_extract rfl rfl) ?_)
  refine gl_op (op_rd rfl (rd_extract rfl rfl) ?_)
  refine gl_op (op_rd rfl (rd_assign rfl) ?_)
  refine gl_op (op_rd rfl (rd_assign rfl) ?_)
  refine gl_nil ?_
  refine gx_then ?_
  refine gc_seq ?_
  refine gc_seq ?_
  refine gc_region ?_
  refine gl_op (op_rd rfl (rd_move rfl) ?_)
  refine gl_op (op_rd rfl (rd_neq rfl rfl) (gk_dec (fun h14 => ?_) (fun h14 => ?_)))
  · skip
    refine gl_nil ?_
    refine gx_then ?_
    refine gc_cond_t rfl ?_
    refine gc_seq ?_
    refine gc_region ?_
    refine gl_op (op_rd rfl (rd_assign rfl) ?_)
    refine gl_nil ?_
    refine gx_then ?_
    refine gc_ret ?_
    refine gx_then_ret ?_
    refine gx_ret1 (.inl rfl) Try.results26 rfl [0, 1, 2] (by decide) ?_
    exact ⟨by rw [if_neg h14], rfl⟩
  · skip
    refine gl_nil ?_
    refine gx_then ?_
    refine gc_cond_f rfl ?_
    refine gc_skip ?_
    refine gx_then ?_
    refine gc_seq ?_
    refine gc_region ?_
    refine gl_op (op_rd rfl (rd_move rfl) ?_)
    refine gl_op (op_rd rfl (rd_conv Try.runUnderlying5 Try.runUnderlying3 rfl (wrap_i64_nat (by have := read_lt hf at_; omega))) ?_)
    refine gl_op (op_rd rfl (rd_assign rfl) ?_)
    refine gl_nil ?_
    refine gx_then ?_
    refine gc_ret ?_
    refine gx_ret1 (.inl rfl) Try.results26 rfl [0, 1, 2] (by decide) ?_
    exact ⟨by rw [if_pos (by omega)], rfl⟩

set_option maxRecDepth 100000 in
set_option maxHeartbeats 4000000 in
theorem StoreKnown_ok (w0 : World) : Sp Try.prog 5 [] w0 [] (RV (.bool true)) := by
  refine spec_enter Try.func5 rfl Try.ntmps5 rfl (Own.refl _) ?_
  simp only [argEnv]
  refine gc_seq ?_
  refine gc_region ?_
  refine gl_op (op_rd rfl (rd_assign rfl) ?_)
  refine gl_nil ?_
  refine gx_then ?_
  refine gc_seq ?_
  refine gc_region ?_
  obtain ⟨k0, k1, k2, k3, k4, k5, k6, k7, k8, k9, k10, hk0, ⟨p1, p2, r1, u1, p3, p4, d1, r2⟩, ⟨s1, r3, e1, r4, u2, p5, s2, r5, c1, c2⟩, o0, o1, o2, o3, o4, o5, o6, o7, o8, o9, o10⟩ := known_all
  refine gl_op (op_call rfl (vf := []) (vc := []) rfl rfl Try.call10 (fun w2 ho => New_ok 4 (by decide) (by decide) w2) ?_)
  rintro _ _ ⟨bf, rb, cb, rfl, rfl⟩
  rw [hk0]
  refine gl_op (op_rd rfl (rd_move rfl) ?_)
  refine gl_op (op_rd rfl (rd_extract rfl rfl) ?_)
  refine gl_op (op_rd rfl (rd_extract rfl rfl) ?_)
  refine gl_op (op_rd rfl (rd_assign rfl) ?_)
  refine gl_op (op_rd rfl (rd_assign rfl) ?_)
  refine gl_nil ?_
  refine gx_then ?_
  refine gc_seq ?_
  refine gc_seq ?_
  refine gc_region ?_
  refine gl_op (op_rd rfl (rd_move rfl) ?_)
  refine gl_op (op_rd rfl (rd_neq rfl rfl) (gk_dec (fun hd1 => ?_) (fun hd1 => ?_)))
  · skip
    exact absurd rfl (by assumption)
  · skip
    refine gl_op (op_rd rfl (rd_move rfl) ?_)
    refine gl_yes rfl rfl (op_rd rfl (rd_move rfl) ?_)
    refine gl_yes rfl rfl (op_callM [0, 1, 2] [] rfl (vf := []) (vc := []) rfl rfl Try.call25 (by decide) rfl (fun w how hc => Program_ok k0 o0 bf rb cb none 0 _ w hc 5 15 (by decide)) ?_)
    rintro _ _ ⟨rfl, rfl⟩
    rw [p1]
    refine gl_yes rfl rfl (op_rd rfl (rd_neq rfl rfl) (gk_dec (fun hd2 => ?_) (fun hd2 => ?_)))
    · skip
      exact absurd rfl (by assumption)
    · skip
      refine gl_op (op_rd rfl (rd_pick_f rfl rfl) ?_)
      refine gl_op (op_rd rfl (rd_move rfl) ?_)
      refine gl_yes rfl rfl (op_rd rfl (rd_move rfl) ?_)
      refine gl_yes rfl rfl (op_callM [0, 1, 2] [] rfl (vf := []) (vc := []) rfl rfl Try.call25 (by decide) rfl (fun w how hc => Program_ok k1 o1 bf rb cb none 0 _ w hc 5 243 (by decide)) ?_)
      rintro _ _ ⟨rfl, rfl⟩
      rw [p2]
      refine gl_yes rfl rfl (op_rd rfl (rd_neq rfl rfl) (gk_dec (fun hd3 => ?_) (fun hd3 => ?_)))
      · skip
        exact absurd rfl (by assumption)
      · skip
        refine gl_op (op_rd rfl (rd_pick_f rfl rfl) ?_)
        refine gl_op (op_rd rfl (rd_move rfl) ?_)
        refine gl_yes rfl rfl (op_rd rfl (rd_move rfl) ?_)
        refine gl_yes rfl rfl (op_callM [0, 1, 2] [] rfl (vf := []) (vc := []) rfl rfl Try.call26 (by decide) rfl (fun w how hc => byteOf_ok k2 o2 bf rb cb none 0 _ w hc 5) ?_)
        rintro _ _ ⟨rfl, rfl⟩
        rw [r1]
        refine gl_yes rfl rfl (op_rd rfl (rd_neq rfl rfl) (gk_dec (fun hd4 => ?_) (fun hd4 => ?_)))
        · skip
          exact absurd rfl (by assumption)
        · skip
          refine gl_op (op_rd rfl (rd_pick_f rfl rfl) ?_)
          refine gl_op (op_rd rfl (rd_move rfl) ?_)
          refine gl_yes rfl rfl (op_rd rfl (rd_move rfl) ?_)
          refine gl_yes rfl rfl (op_buildSlice (sz := 1) rfl rfl (fun _ => bs_36_1_0 _) rfl rfl (fun b32 => ?_))
          refine gl_yes rfl rfl (op_callM [1, 2, 3] [0] rfl (vf := []) (vc := []) rfl rfl Try.call19 (by decide) rfl (fun w how hc => Fuse_ok k2 o2 bf rb cb none 0 _ w hc 1 [48] (some ⟨b32, 0, none⟩) 1 (by decide) (rowOut how 0 [1, 2, 3] rfl (by decide)) (by decide)) ?_)
          rintro _ _ ⟨ra, ka, rfl, rfl⟩
          rw [u1]
          refine gl_yes rfl rfl (op_rd rfl (rd_neq rfl rfl) (gk_dec (fun hd5 => ?_) (fun hd5 => ?_)))
          · skip
            exact absurd rfl (by assumption)
          · skip
            refine gl_op (op_rd rfl (rd_pick_f rfl rfl) ?_)
            refine gl_op (op_rd rfl (rd_move rfl) ?_)
            refine gl_yes rfl rfl (op_rd rfl (rd_move rfl) ?_)
            refine gl_yes rfl rfl (op_callM [0, 1, 2] [3] rfl (vf := []) (vc := []) rfl rfl Try.call25 (by decide) rfl (fun w how hc => Program_ok k3 o3 bf rb cb ra ka _ w hc 6 143 (by decide)) ?_)
            rintro _ _ ⟨rfl, rfl⟩
            rw [p3]
            refine gl_yes rfl rfl (op_rd rfl (rd_neq rfl rfl) (gk_dec (fun hd6 => ?_) (fun hd6 => ?_)))
            · skip
              exact absurd rfl (by assumption)
            · skip
              refine gl_op (op_rd rfl (rd_pick_f rfl rfl) ?_)
              refine gl_op (op_rd rfl (rd_move rfl) ?_)
              refine gl_yes rfl rfl (op_rd rfl (rd_move rfl) ?_)
              refine gl_yes rfl rfl (op_callM [0, 1, 2] [3] rfl (vf := []) (vc := []) rfl rfl Try.call25 (by decide) rfl (fun w how hc => Program_ok k4 o4 bf rb cb ra ka _ w hc 7 15 (by decide)) ?_)
              rintro _ _ ⟨rfl, rfl⟩
              rw [p4]
              refine gl_yes rfl rfl (op_rd rfl (rd_neq rfl rfl) (gk_dec (fun hd7 => ?_) (fun hd7 => ?_)))
              · skip
                exact absurd rfl (by assumption)
              · skip
                refine gl_op (op_rd rfl (rd_pick_f rfl rfl) ?_)
                refine gl_op (op_rd rfl (rd_move rfl) ?_)
                refine gl_yes rfl rfl (op_rd rfl (rd_move rfl) ?_)
                refine gl_yes rfl rfl (op_callM [0, 1, 2] [3] rfl (vf := []) (vc := []) rfl rfl Try.call20 (by decide) rfl (fun w how hc => Down_ok k5 o5 bf rb cb ra ka _ w hc) ?_)
                rintro _ _ ⟨rfl, rfl⟩
                rw [d1]
                refine gl_yes rfl rfl (op_rd rfl (rd_not rfl) ?_)
                refine gl_op (op_rd rfl (rd_pick_f rfl rfl) ?_)
                refine gl_op (op_rd rfl (rd_move rfl) ?_)
                refine gl_yes rfl rfl (op_rd rfl (rd_move rfl) ?_)
                refine gl_yes rfl rfl (op_callM [0, 1, 2] [3] rfl (vf := []) (vc := []) rfl rfl Try.call26 (by decide) rfl (fun w how hc => byteOf_ok k5 o5 bf rb cb ra ka _ w hc 7) ?_)
                rintro _ _ ⟨rfl, rfl⟩
                rw [r2]
                refine gl_yes rfl rfl (op_rd rfl (rd_neq rfl rfl) (gk_dec (fun hd8 => ?_) (fun hd8 => ?_)))
                · skip
                  exact absurd rfl (by assumption)
                · skip
                  refine gl_op (op_rd rfl (rd_pick_f rfl rfl) ?_)
                  refine gl_nil ?_
                  refine gx_then ?_
                  refine gc_cond_f rfl ?_
                  refine gc_skip ?_
                  refine gx_then ?_
                  refine gc_seq ?_
                  refine gc_seq ?_
                  refine gc_region ?_
                  refine gl_op (op_rd rfl (rd_move rfl) ?_)
                  refine gl_op (op_callM [0, 1, 2] [3] rfl (vf := []) (vc := []) rfl rfl Try.call21 (by decide) rfl (fun w how hc => Restart_ok k5 o5 bf rb cb ra ka _ w hc) ?_)
                  rintro _ _ ⟨rfl, rfl⟩
                  rw [s1]
                  refine gl_op (op_rd rfl (rd_neq rfl rfl) (gk_dec (fun hd9 => ?_) (fun hd9 => ?_)))
                  · skip
                    exact absurd rfl (by assumption)
                  · skip
                    refine gl_op (op_rd rfl (rd_move rfl) ?_)
                    refine gl_yes rfl rfl (op_rd rfl (rd_move rfl) ?_)
                    refine gl_yes rfl rfl (op_callM [0, 1, 2] [3] rfl (vf := []) (vc := []) rfl rfl Try.call26 (by decide) rfl (fun w how hc => byteOf_ok k6 o6 bf rb cb none 0 _ w hc 7) ?_)
                    rintro _ _ ⟨rfl, rfl⟩
                    rw [r3]
                    refine gl_yes rfl rfl (op_rd rfl (rd_neq rfl rfl) (gk_dec (fun hd10 => ?_) (fun hd10 => ?_)))
                    · skip
                      exact absurd rfl (by assumption)
                    · skip
                      refine gl_op (op_rd rfl (rd_pick_f rfl rfl) ?_)
                      refine gl_op (op_rd rfl (rd_move rfl) ?_)
                      refine gl_yes rfl rfl (op_rd rfl (rd_move rfl) ?_)
                      refine gl_yes rfl rfl (op_callM [0, 1, 2] [3] rfl (vf := []) (vc := []) rfl rfl Try.call27 (by decide) rfl (fun w how hc => Erase_ok k6 o6 bf rb cb none 0 _ w hc 0) ?_)
                      rintro _ _ ⟨rfl, rfl⟩
                      rw [e1]
                      refine gl_yes rfl rfl (op_rd rfl (rd_neq rfl rfl) (gk_dec (fun hd11 => ?_) (fun hd11 => ?_)))
                      · skip
                        exact absurd rfl (by assumption)
                      · skip
                        refine gl_op (op_rd rfl (rd_pick_f rfl rfl) ?_)
                        refine gl_op (op_rd rfl (rd_move rfl) ?_)
                        refine gl_yes rfl rfl (op_rd rfl (rd_move rfl) ?_)
                        refine gl_yes rfl rfl (op_callM [0, 1, 2] [3] rfl (vf := []) (vc := []) rfl rfl Try.call26 (by decide) rfl (fun w how hc => byteOf_ok k7 o7 bf rb cb none 0 _ w hc 5) ?_)
                        rintro _ _ ⟨rfl, rfl⟩
                        rw [r4]
                        refine gl_yes rfl rfl (op_rd rfl (rd_neq rfl rfl) (gk_dec (fun hd12 => ?_) (fun hd12 => ?_)))
                        · skip
                          exact absurd rfl (by assumption)
                        · skip
                          refine gl_op (op_rd rfl (rd_pick_f rfl rfl) ?_)
                          refine gl_op (op_rd rfl (rd_move rfl) ?_)
                          refine gl_yes rfl rfl (op_rd rfl (rd_move rfl) ?_)
                          refine gl_yes rfl rfl (op_buildSlice (sz := 1) rfl rfl (fun _ => bs_36_2_0_1 _ _) rfl rfl (fun b76 => ?_))
                          refine gl_yes rfl rfl (op_callM [1, 2, 3] [0, 4] rfl (vf := []) (vc := []) rfl rfl Try.call19 (by decide) rfl (fun w how hc => Fuse_ok k7 o7 bf rb cb none 0 _ w hc 0 [1, 128] (some ⟨b76, 0, none⟩) 2 (by decide) (rowOut how 0 [1, 2, 3] rfl (by decide)) (by decide)) ?_)
                          rintro _ _ ⟨rc, kc, rfl, rfl⟩
                          rw [u2]
                          refine gl_yes rfl rfl (op_rd rfl (rd_neq rfl rfl) (gk_dec (fun hd13 => ?_) (fun hd13 => ?_)))
                          · skip
                            exact absurd rfl (by assumption)
                          · skip
                            refine gl_op (op_rd rfl (rd_pick_f rfl rfl) ?_)
                            refine gl_op (op_rd rfl (rd_move rfl) ?_)
                            refine gl_yes rfl rfl (op_rd rfl (rd_move rfl) ?_)
                            refine gl_yes rfl rfl (op_callM [0, 1, 2] [3, 4] rfl (vf := []) (vc := []) rfl rfl Try.call25 (by decide) rfl (fun w how hc => Program_ok k8 o8 bf rb cb rc kc _ w hc 8 0 (by decide)) ?_)
                            rintro _ _ ⟨rfl, rfl⟩
                            rw [p5]
                            refine gl_yes rfl rfl (op_rd rfl (rd_neq rfl rfl) (gk_dec (fun hd14 => ?_) (fun hd14 => ?_)))
                            · skip
                              exact absurd rfl (by assumption)
                            · skip
                              refine gl_op (op_rd rfl (rd_pick_f rfl rfl) ?_)
                              refine gl_op (op_rd rfl (rd_move rfl) ?_)
                              refine gl_yes rfl rfl (op_rd rfl (rd_move rfl) ?_)
                              refine gl_yes rfl rfl (op_callM [0, 1, 2] [3, 4] rfl (vf := []) (vc := []) rfl rfl Try.call21 (by decide) rfl (fun w how hc => Restart_ok k9 o9 bf rb cb rc kc _ w hc) ?_)
                              rintro _ _ ⟨rfl, rfl⟩
                              rw [s2]
                              refine gl_yes rfl rfl (op_rd rfl (rd_neq rfl rfl) (gk_dec (fun hd15 => ?_) (fun hd15 => ?_)))
                              · skip
                                exact absurd rfl (by assumption)
                              · skip
                                refine gl_op (op_rd rfl (rd_pick_f rfl rfl) ?_)
                                refine gl_op (op_rd rfl (rd_move rfl) ?_)
                                refine gl_yes rfl rfl (op_rd rfl (rd_move rfl) ?_)
                                refine gl_yes rfl rfl (op_callM [0, 1, 2] [3, 4] rfl (vf := []) (vc := []) rfl rfl Try.call26 (by decide) rfl (fun w how hc => byteOf_ok k10 o10 bf rb cb none 0 _ w hc 8) ?_)
                                rintro _ _ ⟨rfl, rfl⟩
                                rw [r5]
                                refine gl_yes rfl rfl (op_rd rfl (rd_neq rfl rfl) (gk_dec (fun hd16 => ?_) (fun hd16 => ?_)))
                                · skip
                                  exact absurd rfl (by assumption)
                                · skip
                                  refine gl_op (op_rd rfl (rd_pick_f rfl rfl) ?_)
                                  refine gl_nil ?_
                                  refine gx_then ?_
                                  refine gc_cond_f rfl ?_
                                  refine gc_skip ?_
                                  refine gx_then ?_
                                  refine gc_seq ?_
                                  refine gc_region ?_
                                  refine gl_op (op_rd rfl (rd_move rfl) ?_)
                                  refine gl_op (op_callM [0, 1, 2] [3, 4] rfl (vf := []) (vc := []) rfl rfl Try.call16 (by decide) rfl (fun w how hc => Counts_ok k10 o10 bf rb cb none 0 _ w hc) ?_)
                                  rintro _ _ ⟨rfl, rfl⟩
                                  rw [c1, c2]
                                  refine gl_op (op_rd rfl (rd_move rfl) ?_)
                                  refine gl_op (op_rd rfl (rd_extract rfl rfl) ?_)
                                  refine gl_op (op_rd rfl (rd_extract rfl rfl) ?_)
                                  refine gl_op (op_rd rfl (rd_assign rfl) ?_)
                                  refine gl_op (op_rd rfl (rd_assign rfl) ?_)
                                  refine gl_nil ?_
                                  refine gx_then ?_
                                  refine gc_seq ?_
                                  refine gc_region ?_
                                  refine gl_op (op_call rfl (vf := []) (vc := []) rfl rfl Try.call10 (fun w2 ho => New_ok 4 (by decide) (by decide) w2) ?_)
                                  rintro _ _ ⟨bf2, rb2, cb2, rfl, rfl⟩
                                  have hfr0 := new_fresh (n := 4) (by decide) (by decide)
                                  rw [hk0] at hfr0
                                  obtain ⟨hf0o, hd0, hl0, hb0, hn0, hp0, he0⟩ := hfr0
                                  have hs0 : k0.st = 0 := by rw [← hk0]; rfl
                                  rw [hk0]
                                  refine gl_op (op_rd rfl (rd_move rfl) ?_)
                                  refine gl_op (op_rd rfl (rd_extract rfl rfl) ?_)
                                  refine gl_op (op_rd rfl (rd_extract rfl rfl) ?_)
                                  refine gl_op (op_rd rfl (rd_assign rfl) ?_)
                                  refine gl_op (op_rd rfl (rd_assign rfl) ?_)
                                  refine gl_nil ?_
                                  refine gx_then ?_
                                  refine gc_seq ?_
                                  refine gc_region ?_
                                  refine gl_op (op_rd rfl (rd_move rfl) ?_)
                                  refine gl_op (op_callM [0, 1, 2] [3, 4, 5, 6, 7] rfl (vf := []) (vc := []) rfl rfl Try.call11 (by decide) rfl (fun w how hc => Open_blank k0 hf0o bf2 rb2 cb2 none 0 _ w hc (by omega) hd0 hb0) ?_)
                                  rintro _ _ ⟨bs, bm, rfl, rfl⟩
                                  refine gl_op (op_rd rfl (rd_move rfl) ?_)
                                  refine gl_op (op_rd rfl (rd_extract rfl rfl) ?_)
                                  refine gl_op (op_rd rfl (rd_extract rfl rfl) ?_)
                                  refine gl_op (op_rd rfl (rd_assign rfl) ?_)
                                  refine gl_op (op_rd rfl (rd_assign rfl) ?_)
                                  refine gl_nil ?_
                                  refine gx_then ?_
                                  refine gc_seq ?_
                                  refine gc_region ?_
                                  refine gl_op (op_rd rfl (rd_move rfl) ?_)
                                  refine gl_op (op_rd rfl (rd_eql rfl rfl) (gk_dec (fun hd17 => ?_) (fun hd17 => ?_)))
                                  · skip
                                    refine gl_op (op_rd rfl (rd_move rfl) ?_)
                                    refine gl_yes rfl rfl (op_rd rfl (rd_move rfl) ?_)
                                    refine gl_yes rfl rfl (op_rd rfl (rd_eql rfl rfl) (gk_dec (fun hd18 => ?_) (fun hd18 => ?_)))
                                    · skip
                                      refine gl_op (op_rd rfl (rd_pick_t rfl rfl) ?_)
                                      refine gl_op (op_rd rfl (rd_move rfl) ?_)
                                      refine gl_yes rfl rfl (op_rd rfl (rd_move rfl) ?_)
                                      refine gl_yes rfl rfl (op_rd rfl (rd_eql rfl rfl) (gk_dec (fun hd19 => ?_) (fun hd19 => ?_)))
                                      · skip
                                        refine gl_op (op_rd rfl (rd_pick_t rfl rfl) ?_)
                                        refine gl_op (op_rd rfl (rd_move rfl) ?_)
                                        refine gl_yes rfl rfl (op_rd rfl (rd_move rfl) ?_)
                                        refine gl_yes rfl rfl (op_call rfl (vf := []) (vc := []) rfl rfl Try.call17 (fun w2 ho => Put_arg bs _ w2 (ho.blkCells 0 rfl) 1000 none 0 0 (by omega)) ?_)
                                        rintro _ _ ⟨rfl, rfl⟩
                                        refine gl_yes rfl rfl (op_rd rfl (rd_eql rfl rfl) (gk_dec (fun hd20 => ?_) (fun hd20 => ?_)))
                                        · skip
                                          refine gl_op (op_rd rfl (rd_pick_t rfl rfl) ?_)
                                          refine gl_op (op_rd rfl (rd_move rfl) ?_)
                                          refine gl_yes rfl rfl (op_rd rfl (rd_move rfl) ?_)
                                          refine gl_yes rfl rfl (op_makeSlice (17) Try.underlying36 ty_5 rfl rfl rfl (by omega) (by omega) (by omega) (by omega) (fun b126 => ?_))
                                          refine gl_yes rfl rfl (op_call rfl (vf := []) (vc := []) rfl rfl Try.call17 (fun w2 ho => Put_arg bs _ w2 (ho.blkCells 1 rfl) 0 _ 17 17 (by omega)) ?_)
                                          rintro _ _ ⟨rfl, rfl⟩
                                          refine gl_yes rfl rfl (op_rd rfl (rd_eql rfl rfl) (gk_dec (fun hd21 => ?_) (fun hd21 => ?_)))
                                          · skip
                                            refine gl_op (op_rd rfl (rd_pick_t rfl rfl) ?_)
                                            refine gl_op (op_rd rfl (rd_move rfl) ?_)
                                            refine gl_yes rfl rfl (op_call rfl (vf := []) (vc := []) rfl rfl Try.call9 (fun w1 ho => shown_ok w1) ?_)
                                            rintro _ _ ⟨rfl, rfl⟩
                                            refine gl_op (op_rd rfl (rd_pick_t rfl rfl) ?_)
                                            refine gl_op (op_rd rfl (rd_assign rfl) ?_)
                                            refine gl_nil ?_
                                            refine gx_then ?_
                                            refine gc_ret ?_
                                            refine gx_ret1 (.inl rfl) Try.results5 rfl [] (by decide) ?_
                                            exact ⟨rfl, rfl⟩
                                          · skip
                                            exact absurd rfl (by assumption)
                                        · skip
                                          exact absurd rfl (by assumption)
                                      · skip
                                        exact absurd rfl (by assumption)
                                    · skip
                                      exact absurd rfl (by assumption)
                                  · skip
                                    exact absurd rfl (by assumption)

end Go.Proofs.Ythcbcdjkfefnlaa

set_option autoImplicit false
set_option linter.unusedVariables false
namespace Go.Proofs.Ythcbcdjkfefnlaa
open Go.Gv
open Go.RowKit Go.ChangeShapes Go.WideShapes
open Iv
set_option maxHeartbeats 1000000 in
set_option maxRecDepth 100000 in
theorem storeKnown_lifted (os : Os) (started : os.Started) (H : Type) (enc : TypeId × Value → H) :
    ReturnsInHanded {} Try.checked os 5 .any (Rows.storeKnownSpec.pre6 enc Try.prog Try.f5 Rows.storeKnownRow.domain false) (Rows.storeKnownSpec.post enc Try.prog Try.f5 false true false false) := by
  refine returnsInHanded_of_change_sized (C := Try.checked) tryOwn started (by kernel_rfl) Try.func5
    (ChangeSpec.witness6 (enc := enc) (C := Try.checked) false ⟨#[], #[], []⟩ 8 (by kernel_rfl) (by kernel_rfl) (by kernel_rfl) (by kernel_rfl)) ?_
  intro W base args ds gs before hval0 hW _ hwt _
  have hval : ∀ (j : Nat) t v, Try.f5.params[j]? = some t → args[j]? = some v → Value.okWide Try.prog W .any base t v := hval0
  have hW' := hW
  obtain ⟨p, q, hA0, hV, rfl, hfz, hnd⟩ := hW
  have hA : DataW.TrodAll enc Try.prog W 0 (fun _ => true) true Try.f5.params.toList args.toList ds p := hA0
  rw [Try.params5] at hA hval
  obtain ⟨hargs, rfl, rfl⟩ := trodAll_nil hA
  obtain rfl : args = #[] := Array.toList_inj.1 hargs
  obtain ⟨rfl, rfl⟩ := trodVars_none hV
  have hcall := StoreKnown_ok W
  unfold Sp at hcall
  refine Calls.mono hcall fun e W' ⟨v, l, he, hR, ho⟩ => ⟨v, he, ?_⟩
  obtain ⟨rfl, rfl⟩ := hR
  exact law_post hW' rfl ho.below rfl rfl rfl rfl (by rw [Try.params5]; intro t ht; exact absurd ht (by simp))
theorem storeKnown_over : Rows.storeKnownRow.holds Try.pinned (OpenSpec.ofChange Rows.storeKnownSpec) :=
  OpenClaim.holds_of_wide 5 Try.f5 rfl rfl rfl rfl rfl rfl rfl ⟨rfl, rfl, rfl, rfl, rfl⟩ rfl rfl rfl rfl rfl (by kernel_rfl) Try.func5 (by kernel_rfl)
    (of_decide_eq_true (by kernel_rfl)) (by unfold Func.isWrapper; first | (rw [if_pos (by decide +kernel)]; kernel_rfl) | (rw [if_neg (by decide +kernel)]; exact ⟨rfl, rfl⟩))
    (fun os started H enc _ => storeKnown_lifted os started H enc)
theorem storeKnown_proved : Rows.StoreKnownSaid := storeKnown_over
end Go.Proofs.Ythcbcdjkfefnlaa
