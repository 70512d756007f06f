import Derived.Test.YthcbcdjkfefnlaaSg
import Derived.Test.YthcbcdjkfefnlaaSc
/- The walks of opened, of holds and of the law. -/
set_option linter.unusedSimpArgs false
set_option linter.unusedVariables false
set_option linter.unnecessarySimpa false
set_option autoImplicit false
set_option linter.unusedVariables false
namespace Go.Proofs.Ythcbcdjkfefnlaa
open Go.Gv
open Go.RowKit
open Iv
namespace Iv
structure Sloss where
  key : Nat
  va : Option Addr
  vc : Nat
  v : List Nat
  lose : Bool
  again : Bool
  after : Nat
  pa : Option Addr
  pc : Nat
  ps : List Nat
  deriving Inhabited
def Sloss.cells (x : Sloss) : List Value := [.int .u16 (x.key : Int), .slice x.va x.v.length x.vc, .bool x.lose, .bool x.again, .int .u16 (x.after : Int), .slice x.pa x.ps.length x.pc]
abbrev Sloss.valV (x : Sloss) : Value := .agg #[.int .u16 (x.key : Int), .slice x.va x.v.length x.vc, .bool x.lose, .bool x.again, .int .u16 (x.after : Int), .slice x.pa x.ps.length x.pc]
structure Sloss.In (x : Sloss) (w : World) (S : List Nat) : Prop where
  key : x.key < 65536
  after : x.after < 65536
  v : ∀ z ∈ x.v, z < 256
  ps : ∀ z ∈ x.ps, z < 256
  vsl : OldSl w S x.va x.v.length 1 (x.v.map u8V)
  psl : OldSl w S x.pa x.ps.length 1 (x.ps.map u8V)
  vlen : x.v.length ≤ 140737488355328
  plen : x.ps.length ≤ 140737488355328
theorem fuse_is {f : Fl} (hd : f.down = false) {n : Int} (hn : 0 ≤ n) {ps : List Nat} (hp : ps.length ≤ 256) : flFuse f n ps = ({ f with left := n, picks := ps }, 0) := by
  unfold flFuse
  rw [if_neg (by omega), if_neg (by rw [hd]; decide)]
/-- what opened leaves -/
structure OpdOk (f : Fl) (N : Nat) (V : Vals) (f2 : Fl) (m2 : List (ME He)) (nb2 : Nat) (T2 : List HL) (num2 fb2 id2 : Nat) : Prop where
  st : StOk f2 id2 m2 nb2 T2 num2 fb2 V
  left : f2.left = -1
  len : f2.b.length = f.b.length
  er : f2.er ≤ f.er + 2
  pr : f2.pr = f.pr
  hst : f2.st ≤ f.st + 2
  num : num2 ≤ N
theorem capV_upd {f : Fl} {id : Nat} {m : List (ME He)} {nb : Nat} {T : List HL} {num fb : Nat} {V : Vals} (h : StOk f id m nb T num fb V) {key c n : Nat} {v : List Nat} (hf : ¬ FullV V key c m.length) (hc : m.length ≤ c) : CapV (updV V key n v) c := fun b P n2 fb2 h2 => by
  have hpm : (plain m).length = m.length := by simp [plain]
  have hk : ∀ k ∈ P.map En.key, k = key ∨ k ∈ (plain m).map En.key := fun k hk => by
    obtain ⟨x, hx⟩ := Option.isSome_iff_exists.1 (pget_mem hk)
    have h3 := (h2.so k x hx).2.2
    simp only [updV] at h3
    split at h3
    · rename_i e; exact .inl e
    · right
      cases e : pget k (plain m) with
      | none => rw [(h.pgetV k).1 e] at h3; cases h3
      | some y => exact pget_hit e
  cases e : pget key (plain m) with
  | some y =>
    have h3 := sub_len h2.nd (l2 := (plain m).map En.key) fun k hk2 => by
      rcases hk k hk2 with rfl | h4
      · exact pget_hit e
      · exact h4
    simp at h3
    omega
  | none =>
    have h3 := sub_len h2.nd (l2 := key :: (plain m).map En.key) fun k hk2 => by
      rcases hk k hk2 with rfl | h4
      · exact List.mem_cons_self
      · exact List.mem_cons_of_mem _ h4
    simp at h3
    have : ¬ c ≤ m.length := fun h4 => hf ⟨(h.pgetV key).1 e, h4⟩
    omega
theorem updV_same {V : Vals} {k n : Nat} {v : List Nat} (h : V k = some (n, v)) : updV V k n v = V := by
  funext q
  simp only [updV]
  split
  · rename_i e; rw [e, h]
  · rfl
/-- values that are there are as Put took them -/
theorem StOk.vals {f : Fl} {id : Nat} {m : List (ME He)} {nb : Nat} {T : List HL} {num fb : Nat} {V : Vals} (h : StOk f id m nb T num fb V) {k n : Nat} {v : List Nat} (hv : V k = some (n, v)) : k ≤ 999 ∧ v.length ≤ 16 ∧ ∀ z ∈ v, z < 256 := by
  cases e : pget k (plain m) with
  | none => rw [h.si.no k e] at hv; cases hv
  | some x =>
    obtain ⟨a1, a2, a3⟩ := h.si.so k x e
    rw [hv] at a3
    have := a1.ok h.si.fi.lt h.si.fi.nb
    cases a3
    exact ⟨by rw [← a2]; exact this.key, this.len, this.val⟩
end Iv

theorem slOut3 {w0 w : World} {S : List Nat} {l : List HL} (ho : Own w0 S w l) {a : Option Addr} {m : Nat} {cs : List Value} (h : OldSl w0 S a m 1 cs) (ic : List Nat) : OldSl w ((pick ic l).filterMap HL.block) a m 1 cs := by
  refine ⟨h.len, h.isSome, (h.at ho).cells, fun hm hb => ?_⟩
  obtain ⟨y, hy, hyb⟩ := List.mem_filterMap.1 hb
  rcases ho.place y (pick_mem hy) _ hyb with h1 | h1
  · exact h.out hm h1
  · have := h.lt hm (by decide); omega

set_option maxRecDepth 100000 in
set_option maxHeartbeats 1000000 in
theorem DownS_q (f : Fl) (hf : f.Ok) (bf : Nat) (rb : Option Nat) (cb : Nat) (rp : Option Nat) (cp : Nat) (w0 : World) (hc : Cells w0 ⟨bf, 0, none⟩ (f.cells rb cb rp cp)) : Sp Try.prog 20 [.pointer (some ⟨bf, 0, none⟩)] w0 [] (RV (.bool f.down)) := by
  refine spec_enter Try.func20 rfl Try.ntmps20 rfl (Own.refl _) ?_
  simp only [argEnv]
  refine gc_seq ?_
  refine gc_region ?_
  refine gl_op (op_rd rfl (rd_assign rfl) ?_)
  refine gl_nil ?_
  refine gx_then ?_
  refine gc_seq ?_
  refine gc_region ?_
  refine gl_op (op_rd rfl (rd_move rfl) ?_)
  refine gl_op (op_call rfl (vf := []) (vc := []) rfl rfl Try.call37 (fun w1 ho => none_q f hf bf rb cb rp cp w1 (hc.at ho)) ?_)
  rintro _ _ ⟨rfl, rfl⟩
  refine gl_op (op_rd rfl (rd_not rfl) ?_)
  refine gl_op (op_rd rfl (rd_move rfl) ?_)
  refine gl_yes rfl rfl (op_rd rfl (rd_move rfl) ?_)
  refine gl_yes rfl rfl (op_rd rfl (rd_nilCheck rfl) ?_)
  refine gl_yes rfl rfl (op_rd rfl (rd_fieldAddr rfl (fa_72_4 _)) ?_)
  refine gl_yes rfl rfl (op_rd rfl (rd_load Try.underlying4 rfl rfl (ld_cells (j := 4) hc (by simp) rfl)) ?_)
  refine gl_op (op_rd rfl (rd_pick_t rfl rfl) ?_)
  refine gl_op (op_rd rfl (rd_assign rfl) ?_)
  refine gl_nil ?_
  refine gx_then ?_
  refine gc_ret ?_
  refine gx_ret1 (.inl rfl) Try.results20 rfl [] (by decide) ?_
  exact ⟨rfl, rfl⟩

set_option maxRecDepth 100000 in
set_option maxHeartbeats 4000000 in
theorem opened_ok (f : Fl) (hf : f.Ok) (bf : Nat) (rb : Option Nat) (cb : Nat) (rp : Option Nat) (cp : Nat) (S : List Nat) (w0 : World) (hown : Own w0 S w0 (FlH bf rb cb rp cp f)) (N : Nat) (V : Vals) (hfi : FI f.b N V) (hsp : ∃ q, q < f.b.length / 256 ∧ Spare f.b q) (hcap : CapV V (10 * (f.b.length / 256 - 2))) (hst : f.st + 3 < 4611686018427387904) (her : f.er + 4 < 4611686018427387904) (x : Sloss) (hin : x.In w0 S) (hpl : x.ps.length ≤ 256) : Sp Try.prog 22 [.pointer (some ⟨bf, 0, none⟩), x.valV] w0 S (fun v L => ∃ (bs2 : Nat) (rp2 : Option Nat) (cp2 bm2 : Nat) (f2 : Fl) (m2 : List (ME He)) (nb2 : Nat) (T2 : List HL) (num2 fb2 id2 : Nat), v = .pointer (some ⟨bs2, 0, none⟩) ∧ OpdOk f N V f2 m2 nb2 T2 num2 fb2 id2 ∧ L = .blk bs2 [.bool true, .pointer (some ⟨bf, 0, none⟩), natV id2, .map (some bm2), .int .u32 ((num2 : Nat) : Int), .int .i64 ((fb2 : Nat) : Int)] 81 :: .obj bm2 (mapO HV m2 nb2) :: (FlH bf rb cb rp2 cp2 f2 ++ T2)) := by
  have hbl := hf.hi
  have hxa := hin.after
  refine spec_enter Try.func22 rfl Try.ntmps22 rfl hown ?_
  simp only [argEnv]
  refine gc_seq ?_
  refine gc_region ?_
  refine gl_op (op_box rfl rfl rfl (fun b3 => ?_))
  refine gl_op (op_rd rfl (rd_assign rfl) ?_)
  refine gl_nil ?_
  refine gx_then ?_
  refine gc_seq ?_
  refine gc_seq ?_
  refine gc_region ?_
  refine gl_op (op_rd rfl (rd_move rfl) ?_)
  refine gl_op (op_callM [1, 2, 3] [0] rfl (vf := []) (vc := []) rfl rfl Try.call21 (by decide) rfl (fun w how hc => Restart_ok f hf bf rb cb rp cp _ w hc) ?_)
  rintro _ _ ⟨rfl, rfl⟩
  refine gl_op (op_rd rfl (rd_neq rfl rfl) (gk_dec (fun h11 => ?_) (fun h11 => ?_)))
  · skip
    exact absurd rfl h11
  · skip
    refine gl_nil ?_
    refine gx_then ?_
    refine gc_cond_f rfl ?_
    refine gc_skip ?_
    refine gx_then ?_
    refine gc_seq ?_
    refine gc_seq ?_
    refine gc_region ?_
    refine gl_op (op_rd rfl (rd_fieldAddr rfl (fa_51_3 _)) ?_)
    refine gl_op (op_rd rfl (rd_load Try.underlying4 rfl rfl (by first | exact ld_blk 0 rfl rfl | exact ld_blk 3 rfl rfl | exact ld_rowN 1 rfl (get_bools (by omega)) | exact ld_rowN 2 rfl (get_bools (by omega)) | exact ld_slN (by assumption) (get_bools (by omega)) | exact ld_old (by assumption) (by simp) | exact ld_cells (by assumption) (by simp) rfl)) ?_)
    refine gl_nil ?_
    refine gx_then ?_
    refine gc_cond rfl (fun hc1 => ?_) (fun hc1 => ?_)
    · skip
      refine gc_seq ?_
      refine gc_seq ?_
      refine gc_region ?_
      refine gl_op (op_rd rfl (rd_move rfl) ?_)
      refine gl_op (op_rd rfl (rd_fieldAddr rfl (fa_51_4 _)) ?_)
      refine gl_op (op_rd rfl (rd_load Try.underlying49 rfl rfl (by first | exact ld_blk 0 rfl rfl | exact ld_blk 3 rfl rfl | exact ld_old (by assumption) (by simp) | exact ld_cells (by assumption) (by simp) rfl)) ?_)
      refine gl_op (op_rd rfl (rd_conv Try.runUnderlying49 Try.runUnderlying3 rfl (wrap_i64_nat (by omega))) ?_)
      refine gl_op (op_rd rfl (by first | exact rd_remN (b := 2) rfl rfl (by omega) | exact rd_rem rfl rfl (by omega) (by omega)) ?_)
      refine gl_op (op_rd rfl (rd_fieldAddr rfl (fa_51_5 _)) ?_)
      refine gl_op (op_rd rfl (rd_load Try.underlying36 rfl rfl (by first | exact ld_blk 0 rfl rfl | exact ld_blk 3 rfl rfl | exact ld_old (by assumption) (by simp) | exact ld_cells (by assumption) (by simp) rfl)) ?_)
      refine gl_op (op_callM [0, 1, 2] [3] rfl (vf := []) (vc := []) rfl rfl Try.call19 (by decide) rfl (fun w how hc => Fuse_ok (flRestart f) (restart_okP hf) bf rb cb none 0 _ w hc ((x.after % 2 : Nat) : Int) x.ps x.pa x.pc (by omega) (slOut3 how hin.psl [0, 1, 2]) hin.plen) ?_)
      rintro _ _ ⟨rp2, cp2, rfl, rfl⟩
      rw [fuse_is (f := flRestart f) rfl (by omega) hpl]
      refine gl_op (op_rd rfl (rd_neq rfl rfl) (gk_dec (fun h22 => ?_) (fun h22 => ?_)))
      · skip
        exact absurd rfl h22
      · skip
        refine gl_nil ?_
        refine gx_then ?_
        refine gc_cond_f rfl ?_
        refine gc_skip ?_
        refine gx_then ?_
        refine gc_seq ?_
        have hfo : ({ flRestart f with left := ((x.after % 2 : Nat) : Int), picks := x.ps } : Fl).Ok := ⟨hf.bs, hin.ps, hf.len, hf.lo, hf.hi, hpl, hf.pr, hf.er, hf.st, by simp only; omega, by simp only; omega⟩
        refine gc_region ?_
        refine gl_op (op_rd rfl (rd_move rfl) ?_)
        refine gl_op (op_callM [0, 1, 2] [3] rfl (vf := []) (vc := []) rfl rfl Try.call11 (by decide) rfl (fun w how hc => OpenG_ok ({ flRestart f with left := ((x.after % 2 : Nat) : Int), picks := x.ps } : Fl) hfo bf rb cb rp2 cp2 N V hfi hsp hcap _ w hc (show f.st + 1 < _ by omega) (show f.er + 2 < _ by omega) rfl) ?_)
        rintro _ _ (⟨bs, bm, m, nb, T, num, f3, bk, rfl, hG, rfl⟩ | ⟨f3, rfl, hT, rfl⟩)
        · skip
          refine gk_mid [_, _, _, _, _] T [_] ?_
          have hl3 : f3.b.length = f.b.length := hG.len
          have i1 : f3.er ≤ f.er + 1 := hG.er
          have i2 : f3.pr = f.pr := hG.pr
          have i3 : f3.st = f.st + 1 := hG.hst
          refine gl_op (op_rd rfl (rd_move rfl) ?_)
          refine gl_op (op_rd rfl (rd_extract rfl rfl) ?_)
          refine gl_op (op_rd rfl (rd_extract rfl rfl) ?_)
          refine gl_op (op_rd rfl (rd_assign rfl) ?_)
          refine gl_op (op_rd rfl (rd_assign rfl) ?_)
          refine gl_nil ?_
          refine gx_then ?_
          refine gc_seq ?_
          refine gc_seq ?_
          refine gc_region ?_
          refine gl_op (op_rd rfl (rd_move rfl) ?_)
          refine gl_op (op_rd rfl (rd_neq rfl rfl) (gk_dec (fun h29 => ?_) (fun h29 => ?_)))
          · skip
            exact absurd rfl h29
          · skip
            refine gl_op (op_rd rfl (rd_move rfl) ?_)
            refine gl_no rfl rfl rfl ?_
            refine gl_no rfl rfl rfl ?_
            refine gl_no rfl rfl rfl ?_
            refine gl_noU rfl rfl rfl ?_
            refine gl_noU rfl rfl rfl ?_
            refine gl_noU rfl rfl rfl ?_
            refine gl_no rfl rfl rfl ?_
            refine gl_no rfl rfl rfl ?_
            refine gl_noU rfl rfl rfl ?_
            refine gl_noU rfl rfl rfl ?_
            refine gl_no rfl rfl rfl ?_
            refine gl_op (op_rd rfl (rd_pick_f rfl rfl) ?_)
            refine gl_op (op_rd rfl (rd_move rfl) ?_)
            refine gl_yes rfl rfl (op_rd rfl (rd_move rfl) ?_)
            refine gl_yes rfl rfl (op_rd rfl (rd_eql rfl rfl) (gk_dec (fun h45 => ?_) (fun h45 => ?_)))
            · skip
              refine gl_yes rfl rfl (op_rd rfl (rd_move rfl) ?_)
              refine gl_yes rfl rfl (op_rd rfl (rd_move rfl) ?_)
              refine gl_yes rfl rfl (op_call rfl (vf := []) (vc := []) rfl rfl Try.call20 (fun w1 ho => DownS_q f3 hG.st.ok bf rb cb rp2 cp2 w1 (ho.blkCells 2 rfl)) ?_)
              rintro _ _ ⟨rfl, rfl⟩
              rw [hG.st.dn]
              refine gl_yes rfl rfl (op_rd rfl (rd_pick_t rfl rfl) ?_)
              refine gl_op (op_rd rfl (rd_pick_f rfl rfl) ?_)
              refine gl_nil ?_
              refine gx_then ?_
              refine gc_cond_f rfl ?_
              refine gc_skip ?_
              refine gx_then ?_
              refine gc_seq ?_
              refine gc_region ?_
              refine gl_op (op_rd rfl (rd_move rfl) ?_)
              refine gl_op (op_callMT [_, _, _, _, _, _] T [2, 3, 4] [0, 1, 5] 6 rfl rfl rfl (vf := []) (vc := []) rfl rfl Try.call21 (by decide) (by decide) rfl (fun w how hc => Restart_ok f3 hG.st.ok bf rb cb rp2 cp2 _ w hc) ?_)
              rintro _ _ ⟨rfl, rfl⟩
              refine gl_op (op_rd rfl (rd_neq rfl rfl) (gk_dec (fun h53 => ?_) (fun h53 => ?_)))
              · skip
                exact absurd rfl h53
              · skip
                refine gl_nil ?_
                refine gx_then ?_
                refine gc_cond_f rfl ?_
                refine gc_skip ?_
                refine gx_then ?_
                refine gc_seq ?_
                refine gc_region ?_
                refine gl_op (op_rd rfl (rd_move rfl) ?_)
                refine gl_op (op_callMT [_, _, _, _, _, _] T [0, 1, 2] [3, 4, 5] 6 rfl rfl rfl (vf := []) (vc := []) rfl rfl Try.call11 (by decide) (by decide) rfl (fun w how hc => OpenG_ok (flRestart f3) (restart_okP hG.st.ok) bf rb cb none 0 N V (hG.st.si.fi.mono hG.num) ⟨bk, hG.st.si.hfb, em_spare hG.st.si.fi.lt hG.st.si.em⟩ (by show CapV V (10 * (f3.b.length / 256 - 2)); rw [hl3]; exact hcap) _ w hc (show f3.st + 1 < _ by omega) (show f3.er + 2 < _ by omega) rfl) ?_)
                rintro _ _ (⟨bs2, bm2, m2, nb2, T2, num2, f2, bk2, rfl, hG2, rfl⟩ | ⟨f2, rfl, hT2, rfl⟩)
                · skip
                  refine gk_mid2 [_, _, _, _, _] T2 [_, _, _] T ?_
                  have j1 : f2.er ≤ f3.er + 1 := hG2.er
                  have j2 : f2.pr = f3.pr := hG2.pr
                  have j3 : f2.st = f3.st + 1 := hG2.hst
                  have j4 := hG2.num
                  have j5 : f2.b.length = f3.b.length := hG2.len
                  refine gl_op (op_rd rfl (rd_move rfl) ?_)
                  refine gl_op (op_rd rfl (rd_extract rfl rfl) ?_)
                  refine gl_op (op_rd rfl (rd_extract rfl rfl) ?_)
                  refine gl_op (op_rd rfl (rd_assign rfl) ?_)
                  refine gl_op (op_rd rfl (rd_assign rfl) ?_)
                  refine gl_nil ?_
                  refine gx_then ?_
                  refine gc_seq ?_
                  refine gc_seq ?_
                  refine gc_region ?_
                  refine gl_op (op_rd rfl (rd_move rfl) ?_)
                  refine gl_op (op_rd rfl (rd_neq rfl rfl) (gk_dec (fun h60 => ?_) (fun h60 => ?_)))
                  · skip
                    exact absurd rfl h60
                  · skip
                    refine gl_nil ?_
                    refine gx_then ?_
                    refine gc_cond_f rfl ?_
                    refine gc_skip ?_
                    refine gx_then ?_
                    refine gc_seq ?_
                    refine gc_region ?_
                    refine gl_op (op_rd rfl (rd_move rfl) ?_)
                    refine gl_op (op_rd rfl (rd_assign rfl) ?_)
                    refine gl_nil ?_
                    refine gx_then ?_
                    refine gc_ret ?_
                    refine gx_ret1S (.inl rfl) Try.results22 rfl (sub_tail (A := [_, _, _, _, _]) (B := [_, _, _, _, _, _, _, _]) (T := (T ++ T2)) [0, 1, 2, 3, 4] 8 (by decide) (by decide) rfl rfl) ?_
                    exact ⟨bs2, none, 0, bm2, f2, m2, nb2, (T ++ T2), num2, bk2, _, rfl, ⟨hG2.st.mono (fun y hy => List.mem_append_right _ hy), hG2.no rfl, by omega, by omega, by omega, by omega, j4⟩, rfl⟩
                · skip
                  exact absurd rfl hT2.no
            · skip
              exact absurd rfl h45
        · skip
          have hl3 : f3.b.length = f.b.length := hT.len
          have i1 : f3.er ≤ f.er + 1 := hT.er
          have i2 : f3.pr = f.pr := hT.pr
          have i3 : f3.st = f.st + 1 := hT.hst
          refine gl_op (op_rd rfl (rd_move rfl) ?_)
          refine gl_op (op_rd rfl (rd_extract rfl rfl) ?_)
          refine gl_op (op_rd rfl (rd_extract rfl rfl) ?_)
          refine gl_op (op_rd rfl (rd_assign rfl) ?_)
          refine gl_op (op_rd rfl (rd_assign rfl) ?_)
          refine gl_nil ?_
          refine gx_then ?_
          refine gc_seq ?_
          refine gc_seq ?_
          refine gc_region ?_
          refine gl_op (op_rd rfl (rd_move rfl) ?_)
          refine gl_op (op_rd rfl (rd_neq rfl rfl) (gk_dec (fun h29 => ?_) (fun h29 => ?_)))
          · skip
            refine gl_op (op_rd rfl (rd_move rfl) ?_)
            refine gl_yes rfl rfl (op_rd rfl (rd_move rfl) ?_)
            refine gl_yes rfl rfl (op_rd rfl (rd_neq rfl rfl) (gk_dec (fun h32 => ?_) (fun h32 => ?_)))
            · skip
              exact absurd rfl h32
            · skip
              refine gl_yes rfl rfl (op_rd rfl (rd_move rfl) ?_)
              refine gl_yes rfl rfl (op_rd rfl (rd_move rfl) ?_)
              refine gl_yes rfl rfl (op_call rfl (vf := []) (vc := []) rfl rfl Try.call20 (fun w1 ho => DownS_q f3 hT.ok bf rb cb rp2 cp2 w1 (ho.blkCells 0 rfl)) ?_)
              rintro _ _ ⟨rfl, rfl⟩
              rw [hT.dn]
              refine gl_yes rfl rfl (op_rd rfl (rd_not rfl) ?_)
              refine gl_yes rfl rfl (op_rd rfl (rd_pick_f rfl rfl) ?_)
              refine gl_yes rfl rfl (op_rd rfl (rd_move rfl) ?_)
              refine gl_yes rfl rfl (op_rd rfl (rd_move rfl) ?_)
              refine gl_yes rfl rfl (op_rd rfl (rd_neqNilPt eg_29 Try.underlying29 rfl rfl) ?_)
              refine gl_yes rfl rfl (op_rd rfl (rd_pick_f rfl rfl) ?_)
              refine gl_op (op_rd rfl (rd_pick_t rfl rfl) ?_)
              refine gl_op (op_rd rfl (rd_move rfl) ?_)
              refine gl_yes rfl rfl (op_rd rfl (rd_move rfl) ?_)
              refine gl_yes rfl rfl (op_rd rfl (rd_eql rfl rfl) (gk_dec (fun h45 => ?_) (fun h45 => ?_)))
              · skip
                exact absurd h45 (by decide)
              · skip
                refine gl_yes rfl rfl (op_rd rfl (rd_move rfl) ?_)
                refine gl_no rfl rfl rfl ?_
                refine gl_no rfl rfl rfl ?_
                refine gl_yes rfl rfl (op_rd rfl (rd_pick_f rfl rfl) ?_)
                refine gl_op (op_rd rfl (rd_pick_f rfl rfl) ?_)
                refine gl_nil ?_
                refine gx_then ?_
                refine gc_cond_f rfl ?_
                refine gc_skip ?_
                refine gx_then ?_
                refine gc_seq ?_
                refine gc_region ?_
                refine gl_op (op_rd rfl (rd_move rfl) ?_)
                refine gl_op (op_callM [0, 1, 2] [3] rfl (vf := []) (vc := []) rfl rfl Try.call21 (by decide) rfl (fun w how hc => Restart_ok f3 hT.ok bf rb cb rp2 cp2 _ w hc) ?_)
                rintro _ _ ⟨rfl, rfl⟩
                refine gl_op (op_rd rfl (rd_neq rfl rfl) (gk_dec (fun h53 => ?_) (fun h53 => ?_)))
                · skip
                  exact absurd rfl h53
                · skip
                  refine gl_nil ?_
                  refine gx_then ?_
                  refine gc_cond_f rfl ?_
                  refine gc_skip ?_
                  refine gx_then ?_
                  refine gc_seq ?_
                  refine gc_region ?_
                  refine gl_op (op_rd rfl (rd_move rfl) ?_)
                  refine gl_op (op_callM [0, 1, 2] [3] rfl (vf := []) (vc := []) rfl rfl Try.call11 (by decide) rfl (fun w how hc => OpenG_ok (flRestart f3) (restart_okP hT.ok) bf rb cb none 0 N V hT.fi (by obtain ⟨q, h1, h2⟩ := hT.sp; exact ⟨q, by show q < f3.b.length / 256; rw [hl3]; exact h1, h2⟩) (by show CapV V (10 * (f3.b.length / 256 - 2)); rw [hl3]; exact hcap) _ w hc (show f3.st + 1 < _ by omega) (show f3.er + 2 < _ by omega) rfl) ?_)
                  rintro _ _ (⟨bs2, bm2, m2, nb2, T2, num2, f2, bk2, rfl, hG2, rfl⟩ | ⟨f2, rfl, hT2, rfl⟩)
                  · skip
                    refine gk_mid [_, _, _, _, _] T2 [_] ?_
                    have j1 : f2.er ≤ f3.er + 1 := hG2.er
                    have j2 : f2.pr = f3.pr := hG2.pr
                    have j3 : f2.st = f3.st + 1 := hG2.hst
                    have j4 := hG2.num
                    have j5 : f2.b.length = f3.b.length := hG2.len
                    refine gl_op (op_rd rfl (rd_move rfl) ?_)
                    refine gl_op (op_rd rfl (rd_extract rfl rfl) ?_)
                    refine gl_op (op_rd rfl (rd_extract rfl rfl) ?_)
                    refine gl_op (op_rd rfl (rd_assign rfl) ?_)
                    refine gl_op (op_rd rfl (rd_assign rfl) ?_)
                    refine gl_nil ?_
                    refine gx_then ?_
                    refine gc_seq ?_
                    refine gc_seq ?_
                    refine gc_region ?_
                    refine gl_op (op_rd rfl (rd_move rfl) ?_)
                    refine gl_op (op_rd rfl (rd_neq rfl rfl) (gk_dec (fun h60 => ?_) (fun h60 => ?_)))
                    · skip
                      exact absurd rfl h60
                    · skip
                      refine gl_nil ?_
                      refine gx_then ?_
                      refine gc_cond_f rfl ?_
                      refine gc_skip ?_
                      refine gx_then ?_
                      refine gc_seq ?_
                      refine gc_region ?_
                      refine gl_op (op_rd rfl (rd_move rfl) ?_)
                      refine gl_op (op_rd rfl (rd_assign rfl) ?_)
                      refine gl_nil ?_
                      refine gx_then ?_
                      refine gc_ret ?_
                      refine gx_ret1S (.inl rfl) Try.results22 rfl (sub_tail (A := [_, _, _, _, _]) (B := [_, _, _, _, _, _]) (T := T2) [0, 1, 2, 3, 4] 6 (by decide) (by decide) rfl rfl) ?_
                      exact ⟨bs2, none, 0, bm2, f2, m2, nb2, T2, num2, bk2, _, rfl, ⟨hG2.st, hG2.no rfl, by omega, by omega, by omega, by omega, j4⟩, rfl⟩
                  · skip
                    exact absurd rfl hT2.no
          · skip
            exact absurd (by decide) h29
    · skip
      refine gc_skip ?_
      refine gx_then ?_
      refine gc_seq ?_
      refine gc_region ?_
      refine gl_op (op_rd rfl (rd_move rfl) ?_)
      refine gl_op (op_callM [0, 1, 2] [3] rfl (vf := []) (vc := []) rfl rfl Try.call11 (by decide) rfl (fun w how hc => OpenG_ok (flRestart f) (restart_okP hf) bf rb cb none 0 N V hfi hsp hcap _ w hc (show f.st + 1 < _ by omega) (show f.er + 2 < _ by omega) rfl) ?_)
      rintro _ _ (⟨bs2, bm2, m2, nb2, T2, num2, f2, bk2, rfl, hG2, rfl⟩ | ⟨f2, rfl, hT2, rfl⟩)
      · skip
        refine gk_mid [_, _, _, _, _] T2 [_] ?_
        have j1 : f2.er ≤ f.er + 1 := hG2.er
        have j2 : f2.pr = f.pr := hG2.pr
        have j3 : f2.st = f.st + 1 := hG2.hst
        have j4 := hG2.num
        have j5 : f2.b.length = f.b.length := hG2.len
        refine gl_op (op_rd rfl (rd_move rfl) ?_)
        refine gl_op (op_rd rfl (rd_extract rfl rfl) ?_)
        refine gl_op (op_rd rfl (rd_extract rfl rfl) ?_)
        refine gl_op (op_rd rfl (rd_assign rfl) ?_)
        refine gl_op (op_rd rfl (rd_assign rfl) ?_)
        refine gl_nil ?_
        refine gx_then ?_
        refine gc_seq ?_
        refine gc_seq ?_
        refine gc_region ?_
        refine gl_op (op_rd rfl (rd_move rfl) ?_)
        refine gl_op (op_rd rfl (rd_neq rfl rfl) (gk_dec (fun h60 => ?_) (fun h60 => ?_)))
        · skip
          exact absurd rfl h60
        · skip
          refine gl_nil ?_
          refine gx_then ?_
          refine gc_cond_f rfl ?_
          refine gc_skip ?_
          refine gx_then ?_
          refine gc_seq ?_
          refine gc_region ?_
          refine gl_op (op_rd rfl (rd_move rfl) ?_)
          refine gl_op (op_rd rfl (rd_assign rfl) ?_)
          refine gl_nil ?_
          refine gx_then ?_
          refine gc_ret ?_
          refine gx_ret1S (.inl rfl) Try.results22 rfl (sub_tail (A := [_, _, _, _, _]) (B := [_, _, _, _, _, _]) (T := T2) [0, 1, 2, 3, 4] 6 (by decide) (by decide) rfl rfl) ?_
          exact ⟨bs2, none, 0, bm2, f2, m2, nb2, T2, num2, bk2, _, rfl, ⟨hG2.st, hG2.no rfl, by omega, by omega, by omega, by omega, j4⟩, rfl⟩
      · skip
        exact absurd rfl hT2.no

end Go.Proofs.Ythcbcdjkfefnlaa

set_option autoImplicit false
set_option linter.unusedVariables false
namespace Go.Proofs.Ythcbcdjkfefnlaa
open Go.Gv
open Go.RowKit
open Iv
namespace Iv
theorem cnt_all {ks kn : List Nat} (h1 : ks.Nodup) (h2 : kn.Nodup) (h3 : ∀ k ∈ kn, k ∈ ks) : ks.countP (fun k => decide (k ∈ kn)) = kn.length := by
  rw [List.countP_eq_length_filter]
  refine ((List.perm_ext_iff_of_nodup (h1.filter _) h2).2 fun a => ?_).length_eq
  simp only [List.mem_filter, decide_eq_true_eq]
  exact ⟨fun h => h.2, fun h => ⟨h3 a h, h⟩⟩
theorem cnt_one {k : Nat} : ∀ {kn : List Nat}, kn.Nodup → kn.countP (fun q => decide (q = k)) = if k ∈ kn then 1 else 0
  | [], _ => rfl
  | x :: l, h => by
    rw [List.nodup_cons] at h
    rw [List.countP_cons, cnt_one h.2]
    by_cases e : x = k
    · subst e
      rw [if_neg h.1]; simp
    · have : ¬ k = x := fun h => e h.symm
      by_cases e2 : k ∈ l <;> simp [e, e2, this]
theorem sget_ok {key : Nat} (h : key ≤ 999) (V : Vals) : (sgetP (key : Int) V).2 = 0 := by
  unfold sgetP
  rw [if_neg (by omega)]
  split <;> rfl
theorem sget_val {key : Nat} (h : key ≤ 999) (V : Vals) : (sgetP (key : Int) V).1 = ((V key).map fun p => p.2).getD [] := by
  unfold sgetP
  rw [if_neg (by omega), Int.toNat_natCast]
  cases V key <;> rfl
theorem OldSl.nilS {w : World} {S : List Nat} {a : Option Addr} {m sz : Nat} {cs : List Value} (h : OldSl w S a m sz cs) : OldSl w [] a m sz cs := ⟨h.len, h.isSome, h.cells, fun _ => by simp⟩
theorem keysP_nodup {f : Fl} {id : Nat} {m : List (ME He)} {nb : Nat} {T : List HL} {num fb : Nat} {V : Vals} (h : StOk f id m nb T num fb V) : (keysP (plain m)).Nodup := (List.Perm.nodup_iff (srt_perm _)).2 h.si.nd
theorem keysP_iff {f : Fl} {id : Nat} {m : List (ME He)} {nb : Nat} {T : List HL} {num fb : Nat} {V : Vals} (h : StOk f id m nb T num fb V) (k : Nat) : k ∈ keysP (plain m) ↔ (V k).isSome = true := by
  constructor
  · intro hk
    obtain ⟨x, hx⟩ := Option.isSome_iff_exists.1 (pget_mem (keysP_mem hk))
    rw [(h.si.so k x hx).2.2]; rfl
  · intro hk
    cases e : pget k (plain m) with
    | none => rw [(h.pgetV k).1 e] at hk; cases hk
    | some x => exact keysP_mem' (pget_hit e)
structure HoldK (ks kn : List Nat) (key : Nat) (vs : List Nat) (V V2 : Vals) : Prop where
  cnt : ks.countP (fun k => decide (k ∈ kn)) = kn.length
  len : ks.length = kn.length ∨ ks.length = kn.length + 1
  nd : kn.Nodup
  k9 : ∀ k ∈ ks, k ≤ 999
  lt : ∀ k ∈ ks, ∀ z ∈ (sgetP (k : Int) V2).1, z < 256
  lt2 : ∀ k ∈ ks, ∀ z ∈ (sgetP (k : Int) V).1, z < 256
  ne : ∀ k ∈ ks, k ≠ key → (sgetP (k : Int) V2).1 = (sgetP (k : Int) V).1
  eq : key ∈ ks → (sgetP (key : Int) V2).1 = (sgetP (key : Int) V).1 ∨ (sgetP (key : Int) V2).1 = vs
theorem holdK {f : Fl} {id : Nat} {m : List (ME He)} {nb : Nat} {T T2 : List HL} {num fb : Nat} {V V2 : Vals} {L : List Rv} (h : StOk f id m nb T num fb V2) (hr : RfOk L T2 V) {key n1 : Nat} {vs : List Nat} (hrel : V2 = V ∨ V2 = updV V key n1 vs) (hk9 : key ≤ 999) : HoldK (keysP (plain m)) (L.map Rv.key) key vs V V2 := by
  have hn : (L.map Rv.key).Nodup := hr.sort.imp fun h => Nat.ne_of_lt h
  have hnk := keysP_nodup h
  have hV : ∀ k, k ∈ L.map Rv.key ↔ (V k).isSome = true := fun k => ⟨fun hk => by
    obtain ⟨x, hx, rfl⟩ := List.mem_map.1 hk
    obtain ⟨mm, hv⟩ := hr.v1 x hx
    rw [hv]; rfl, hr.v2 k⟩
  have hsub : ∀ k ∈ L.map Rv.key, k ∈ keysP (plain m) := fun k hk => by
    rw [keysP_iff h]
    have := (hV k).1 hk
    rcases hrel with rfl | rfl
    · exact this
    · simp only [updV]; split
      · rfl
      · exact this
  have hsup : ∀ k ∈ keysP (plain m), k = key ∨ k ∈ L.map Rv.key := fun k hk => by
    rw [keysP_iff h] at hk
    rcases hrel with rfl | rfl
    · exact .inr ((hV k).2 hk)
    · simp only [updV] at hk; split at hk
      · rename_i e; exact .inl e
      · exact .inr ((hV k).2 hk)
  have hk9' : ∀ k ∈ keysP (plain m), k ≤ 999 := fun k hk => by
    rcases hsup k hk with rfl | hk
    · exact hk9
    · obtain ⟨x, hx, rfl⟩ := List.mem_map.1 hk
      exact hr.key x hx
  refine ⟨cnt_all hnk hn hsub, ?_, hn, hk9', fun k hk z hz => ?_, fun k hk z hz => ?_, fun k hk hne => ?_, fun hk => ?_⟩
  · have h1 := sub_len hn hsub
    have h2 := sub_len hnk (l2 := key :: L.map Rv.key) fun k hk => by
      rcases hsup k hk with rfl | hk
      · exact List.mem_cons_self
      · exact List.mem_cons_of_mem _ hk
    simp only [List.length_cons] at h2
    omega
  · rw [sget_val (hk9' k hk)] at hz
    cases e : V2 k with
    | none => rw [e] at hz; cases hz
    | some p => rw [e] at hz; exact (h.vals (n := p.1) (v := p.2) (by rw [e])).2.2 z hz
  · rw [sget_val (hk9' k hk)] at hz
    cases e : V k with
    | none => rw [e] at hz; cases hz
    | some p =>
      rw [e] at hz
      obtain ⟨x, hx, e2⟩ := List.mem_map.1 ((hV k).2 (by rw [e]; rfl))
      obtain ⟨mm, hv⟩ := hr.v1 x hx
      rw [e2, e] at hv
      cases hv
      exact hr.val x hx z hz
  · rw [sget_val (hk9' k hk), sget_val (hk9' k hk)]
    rcases hrel with rfl | rfl
    · rfl
    · simp only [updV]; rw [if_neg hne]
  · rcases hrel with rfl | rfl
    · exact .inl rfl
    · right
      rw [sget_val hk9]
      simp only [updV]; rw [if_pos trivial]; rfl
end Iv

set_option maxRecDepth 100000 in
set_option maxHeartbeats 4000000 in
theorem holds_ok (f : Fl) (bs bf : Nat) (rb : Option Nat) (cb : Nat) (rp : Option Nat) (cp : Nat) (id bm num fb : Nat) (m : List (ME He)) (nb : Nat) (T : List HL) (V0 V : Vals) (hst : StOk f id m nb T num fb V) (L : List Rv) (br : Nat) (rL : Option Nat) (cL : Nat) (hrf : RfOk L T V0) (key n1 : Nat) (hk9 : key ≤ 999) (vs : List Nat) (hrel : V = V0 ∨ V = updV V0 key n1 vs) (S : List Nat) (w0 : World) (hown : Own w0 S w0 (.blk bs [.bool true, .pointer (some ⟨bf, 0, none⟩), natV id, .map (some bm), .int .u32 ((num : Nat) : Int), .int .i64 ((fb : Nat) : Int)] 81 :: .obj bm (mapO HV m nb) :: (FlH bf rb cb rp cp f ++ (RsH br (f.b.length / 256) rL cL L ++ T)))) (a : Option Addr) (ca : Nat) (hsl : OldSl w0 S a vs.length 1 (vs.map u8V)) : Sp Try.prog 23 [.pointer (some ⟨bs, 0, none⟩), .pointer (some ⟨br, 0, none⟩), natV key, .slice a vs.length ca] w0 S (fun v L0 => v = .bool true ∧ L0 = (.blk bs [.bool true, .pointer (some ⟨bf, 0, none⟩), natV id, .map (some bm), .int .u32 ((num : Nat) : Int), .int .i64 ((fb : Nat) : Int)] 81 :: .obj bm (mapO HV m nb) :: (FlH bf rb cb rp cp f ++ (RsH br (f.b.length / 256) rL cL L ++ T)))) := by
  have hbl := hst.ok.hi
  have hbl0 := hst.ok.lo
  have hcap := hst.cap
  have hK := holdK hst hrf hrel hk9
  have hkl0 := keysP_len (plain m)
  have hpml : (plain m).length = m.length := by simp [plain]
  have hlen2 := hK.len
  have hknl : (L.map Rv.key).length = L.length := List.length_map _
  have hLb : L.length ≤ 100000 := by omega
  obtain ⟨ks, hks⟩ : ∃ ks, keysP (plain m) = ks := ⟨_, rfl⟩
  obtain ⟨kn, hkn⟩ : ∃ kn, L.map Rv.key = kn := ⟨_, rfl⟩
  rw [hks, hkn] at hK hlen2
  rw [hks] at hkl0
  rw [hkn] at hknl
  refine spec_enter Try.func23 rfl Try.ntmps23 rfl hown ?_
  simp only [argEnv]
  refine gc_seq ?_
  refine gc_region ?_
  refine gl_op (op_rd rfl (rd_assign rfl) ?_)
  refine gl_nil ?_
  refine gx_then ?_
  refine gc_seq ?_
  refine gc_region ?_
  refine gl_op (op_rd rfl (rd_move rfl) ?_)
  refine gl_op (op_rd rfl (rd_move rfl) ?_)
  refine gl_op (op_call rfl (vf := []) (vc := []) rfl rfl Try.call13 (fun w1 ho => rGet_q L br (f.b.length / 256) rL cL hLb w1 (ho.blkCells 5 rfl) (ho.rowSl 6 rfl) (fun x hx => ho.memSl (show x.row ∈ _ from by simp [hrf.row x hx])) hrf.len (key : Int)) ?_)
  rintro _ _ ⟨rz, cz, rfl, rfl⟩
  rw [rget_sget hrf (key : Int), sget_ok hk9]
  refine gl_op (op_rd rfl (rd_move rfl) ?_)
  refine gl_op (op_rd rfl (rd_extract rfl rfl) ?_)
  refine gl_op (op_rd rfl (rd_extract rfl rfl) ?_)
  refine gl_op (op_rd rfl (rd_assign rfl) ?_)
  refine gl_op (op_rd rfl (rd_assign rfl) ?_)
  refine gl_nil ?_
  refine gx_then ?_
  refine gc_seq ?_
  refine gc_region ?_
  refine gl_op (op_rd rfl (rd_move rfl) ?_)
  refine gl_op (op_callMT [_, _, _, _, _, _, _, _] T [1, 2, 3, 4, 5] [0, 6, 7] 8 rfl rfl rfl (vf := []) (vc := []) rfl rfl Try.call24 (by decide) (by decide) rfl (fun w how hc => Keys_ok f bs bf rb cb rp cp id bm num fb m nb T V hst _ w hc) ?_)
  rintro _ _ ⟨rk, ck, rfl, rfl⟩
  rw [hks]
  refine gl_op (op_rd rfl (rd_move rfl) ?_)
  refine gl_op (op_rd rfl (rd_extract rfl rfl) ?_)
  refine gl_op (op_rd rfl (rd_extract rfl rfl) ?_)
  refine gl_op (op_rd rfl (rd_assign rfl) ?_)
  refine gl_op (op_rd rfl (rd_assign rfl) ?_)
  refine gl_nil ?_
  refine gx_then ?_
  refine gc_seq ?_
  refine gc_seq ?_
  refine gc_region ?_
  refine gl_op (op_rd rfl (rd_move rfl) ?_)
  refine gl_op (op_rd rfl (rd_neq rfl rfl) (gk_dec (fun h33 => ?_) (fun h33 => ?_)))
  · skip
    exact absurd rfl h33
  · skip
    refine gl_op (op_rd rfl (rd_move rfl) ?_)
    refine gl_yes rfl rfl (op_rd rfl (rd_move rfl) ?_)
    refine gl_yes rfl rfl (op_rd rfl (rd_neq rfl rfl) (gk_dec (fun h36 => ?_) (fun h36 => ?_)))
    · skip
      exact absurd rfl h36
    · skip
      refine gl_op (op_rd rfl (rd_pick_f rfl rfl) ?_)
      refine gl_nil ?_
      refine gx_then ?_
      refine gc_cond_f rfl ?_
      refine gc_skip ?_
      refine gx_then ?_
      refine gc_seq ?_
      refine gc_region ?_
      refine gl_op (op_rd rfl (rd_move rfl) ?_)
      refine gl_op (op_call rfl (vf := []) (vc := []) rfl rfl Try.call46 (fun w1 ho => rKeys_q L br (f.b.length / 256) rL cL hLb w1 (ho.blkCells 7 rfl) (ho.rowSl 8 rfl)) ?_)
      rintro _ _ ⟨rk2, ck2, rfl, rfl⟩
      rw [hkn]
      refine gl_op (op_rd rfl (rd_assign rfl) ?_)
      refine gl_nil ?_
      refine gx_then ?_
      refine gc_seq ?_
      refine gc_region ?_
      refine gl_op (op_rd rfl (rd_assign rfl) ?_)
      refine gl_nil ?_
      refine gx_then ?_
      refine gc_seq ?_
      refine gc_seq ?_
      refine gc_region ?_
      refine gl_op (op_rd rfl (rd_assign rfl) ?_)
      refine gl_nil ?_
      refine gx_then ?_
      refine gc_block ?_
      refine gc_loopF (ι := Nat × Nat) [(0, _), (1, _), (2, _), (3, _), (11, _), (13, _)] (_ :: _ :: _ :: _ :: _ :: _ :: _ :: _ :: _ :: _ :: T) (fun i => i.1 ≤ ks.length ∧ i.2 = (ks.take i.1).countP (fun k => decide (k ∈ kn))) (fun i Fr0 => ((14, natV i.2) :: (15, natV i.1) :: Fr0)) (fun i Fr0 => Fr0) (fun i => ks.length - i.1) (0, 0) (⟨Nat.zero_le _, rfl⟩) ⟨rfl, rfl, rfl, rfl, rfl, rfl, rfl, rfl, trivial⟩ (sub_tail (A := [_, _, _, _, _, _, _, _, _, _]) (B := [_, _, _, _, _, _, _, _, _, _]) (T := T) [0, 1, 2, 3, 4, 5, 6, 7, 8, 9] 10 (by decide) (by decide) rfl rfl) ?_
      rintro ⟨i, n0⟩ ⟨hi, hn0⟩
      simp only at hi hn0 ⊢
      have hle : (ks.take i).countP (fun k => decide (k ∈ kn)) ≤ (ks.take i).length := List.countP_le_length
      rw [List.length_take] at hle
      refine gc_seq ?_
      refine gc_seq ?_
      refine gc_region ?_
      refine gl_op (op_rd rfl (rd_move rfl) ?_)
      refine gl_op (op_rd rfl (rd_move rfl) ?_)
      refine gl_op (op_rd rfl (rd_lenSlice Try.underlying55 rfl) ?_)
      refine gl_op (op_rd rfl (rd_lss rfl rfl) (gk_dec (fun h43 => ?_) (fun h43 => ?_)))
      · skip
        obtain ⟨k, hki⟩ := get_some (show i < ks.length by omega)
        have hkm := List.mem_of_getElem? hki
        have hk999 := hK.k9 k hkm
        refine gl_nil ?_
        refine gx_then ?_
        refine gc_cond_t rfl ?_
        refine gc_skip ?_
        refine gx_then ?_
        refine gc_seq ?_
        refine gc_block ?_
        refine gc_seq ?_
        refine gc_region ?_
        refine gl_op (op_rd rfl (rd_move rfl) ?_)
        refine gl_op (op_rd rfl (rd_move rfl) ?_)
        refine gl_op (op_rd rfl (rd_move rfl) ?_)
        refine gl_op (op_rd rfl (rd_indexRow1 6 rfl Try.underlying55 ty_3 rfl rfl (by omega) (by omega)) ?_)
        refine gl_op (op_rd rfl (rd_load Try.underlying3 rfl rfl (ld_rowN 6 rfl (get_natsL hki))) ?_)
        refine gl_op (op_callMW [_, _, _, _, _, _, _, _, _, _] T [1, 2, 3, 4, 5] [0, 6, 7, 8, 9] 10 rfl rfl rfl (vf := []) (vc := []) rfl rfl Try.call12 (by decide) (by decide) rfl (fun w how hc => GetM_ok f bs bf rb cb rp cp id bm num fb m nb T V hst _ w hc (k : Int)) ?_)
        rintro _ _ ⟨rg, cg, rfl, rfl⟩
        refine gk_mid [_, _, _, _, _, _] T [_, _, _, _, _] ?_
        rw [sget_ok hk999]
        refine gl_op (op_rd rfl (rd_move rfl) ?_)
        refine gl_op (op_rd rfl (rd_extract rfl rfl) ?_)
        refine gl_op (op_rd rfl (rd_extract rfl rfl) ?_)
        refine gl_op (op_rd rfl (rd_assign rfl) ?_)
        refine gl_op (op_rd rfl (rd_assign rfl) ?_)
        refine gl_nil ?_
        refine gx_then ?_
        refine gc_seq ?_
        refine gc_region ?_
        refine gl_op (op_rd rfl (rd_move rfl) ?_)
        refine gl_op (op_rd rfl (rd_move rfl) ?_)
        refine gl_op (op_rd rfl (rd_move rfl) ?_)
        refine gl_op (op_rd rfl (rd_indexRow1 7 rfl Try.underlying55 ty_3 rfl rfl (by omega) (by omega)) ?_)
        refine gl_op (op_rd rfl (rd_load Try.underlying3 rfl rfl (ld_rowN 7 rfl (get_natsL hki))) ?_)
        refine gl_op (op_call rfl (vf := []) (vc := []) rfl rfl Try.call13 (fun w1 ho => rGet_q L br (f.b.length / 256) rL cL hLb w1 (ho.blkCells 9 rfl) (ho.rowSl 10 rfl) (fun x hx => ho.memSl (show x.row ∈ _ from by simp [hrf.row x hx])) hrf.len (k : Int)) ?_)
        rintro _ _ ⟨rh, ch, rfl, rfl⟩
        rw [rget_sget hrf (k : Int)]
        refine gl_op (op_rd rfl (rd_move rfl) ?_)
        refine gl_op (op_rd rfl (rd_extract rfl rfl) ?_)
        refine gl_op (op_rd rfl (rd_extract rfl rfl) ?_)
        refine gl_op (op_rd rfl (rd_assign rfl) ?_)
        refine gl_op (op_rd rfl (rd_assign rfl) ?_)
        refine gl_nil ?_
        refine gx_then ?_
        refine gc_seq ?_
        refine gc_seq ?_
        refine gc_region ?_
        refine gl_op (op_rd rfl (rd_move rfl) ?_)
        refine gl_op (op_rd rfl (rd_neq rfl rfl) (gk_dec (fun h65 => ?_) (fun h65 => ?_)))
        · skip
          exact absurd rfl h65
        · skip
          refine gl_op (op_rd rfl (rd_move rfl) ?_)
          refine gl_yes rfl rfl (op_rd rfl (rd_move rfl) ?_)
          refine gl_yes rfl rfl (op_rd rfl (rd_toStr (zs := (sgetP (k : Int) V).1) Try.underlying36 Try.underlying5 Try.underlying9 rfl (fun w ho => ho.rowSl 1 rfl)) ?_)
          refine gl_yes rfl rfl (op_rd rfl (rd_move rfl) ?_)
          refine gl_yes rfl rfl (op_rd rfl (rd_toStr (zs := (sgetP (k : Int) V0).1) Try.underlying36 Try.underlying5 Try.underlying9 rfl (fun w ho => ho.rowSl 0 rfl)) ?_)
          refine gl_yes rfl rfl (op_rd rfl (rd_neqStr Try.underlying9 eg_9 rfl rfl) ?_)
          rw [strN_eq (hK.lt k hkm) (hK.lt2 k hkm)]
          refine gk_bool (fun h71 => ?_) (fun h71 => ?_)
          · skip
            refine gl_yes rfl rfl (op_rd rfl (rd_move rfl) ?_)
            refine gl_yes rfl rfl (op_rd rfl (rd_move rfl) ?_)
            refine gl_yes rfl rfl (op_rd rfl (rd_move rfl) ?_)
            refine gl_yes rfl rfl (op_rd rfl (rd_indexRow1 8 rfl Try.underlying55 ty_3 rfl rfl (by omega) (by omega)) ?_)
            refine gl_yes rfl rfl (op_rd rfl (rd_load Try.underlying3 rfl rfl (ld_rowN 8 rfl (get_natsL hki))) ?_)
            refine gl_yes rfl rfl (op_rd rfl (rd_move rfl) ?_)
            refine gl_yes rfl rfl (op_rd rfl (rd_neq rfl rfl) (gk_dec (fun h78 => ?_) (fun h78 => ?_)))
            · skip
              rw [hK.ne k hkm (by omega)] at h71
              simp at h71
            · skip
              obtain rfl : k = key := by omega
              have hAv : (sgetP (k : Int) V).1 = vs := by
                rcases hK.eq hkm with h | h
                · rw [h] at h71; simp at h71
                · exact h
              refine gl_yes rfl rfl (op_rd rfl (rd_move rfl) ?_)
              refine gl_yes rfl rfl (op_rd rfl (rd_move rfl) ?_)
              refine gl_yes rfl rfl (op_rd rfl (rd_toStr (zs := (sgetP (k : Int) V).1) Try.underlying36 Try.underlying5 Try.underlying9 rfl (fun w ho => ho.rowSl 1 rfl)) ?_)
              refine gl_yes rfl rfl (op_rd rfl (rd_move rfl) ?_)
              refine gl_yes rfl rfl (op_rd rfl (rd_toStr (zs := vs) Try.underlying36 Try.underlying5 Try.underlying9 rfl (fun w ho => OldSl.nilS (hsl.at ho))) ?_)
              refine gl_yes rfl rfl (op_rd rfl (rd_neqStr Try.underlying9 eg_9 rfl rfl) ?_)
              rw [show (!((strN (sgetP ((k : Nat) : Int) V).1).toList == (strN vs).toList)) = false by rw [hAv]; simp]
              refine gl_yes rfl rfl (op_rd rfl (rd_pick_f rfl rfl) ?_)
              refine gl_yes rfl rfl (op_rd rfl (rd_pick_t rfl rfl) ?_)
              refine gl_op (op_rd rfl (rd_pick_f rfl rfl) ?_)
              refine gl_nil ?_
              refine gx_then ?_
              refine gc_cond_f rfl ?_
              refine gc_skip ?_
              refine gx_then ?_
              refine gc_seq ?_
              refine gc_region ?_
              refine gl_op (op_rd rfl (rd_assign rfl) ?_)
              refine gl_nil ?_
              refine gx_then ?_
              refine gc_block ?_
              refine gc_loopF (ι := Nat × Nat) [(0, _), (1, _), (2, _), (3, _), (11, _), (13, _), (15, _)] (_ :: _ :: _ :: _ :: _ :: _ :: _ :: _ :: _ :: _ :: _ :: _ :: T) (fun j => j.1 ≤ kn.length ∧ j.2 = n0 + (kn.take j.1).countP (fun q => decide (q = k))) (fun j Fr0 => ((14, natV j.2) :: (20, natV j.1) :: Fr0)) (fun j Fr0 => Fr0) (fun j => kn.length - j.1) (0, n0) (⟨Nat.zero_le _, rfl⟩) ⟨rfl, rfl, rfl, rfl, rfl, rfl, rfl, rfl, rfl, trivial⟩ (sub_tail (A := [_, _, _, _, _, _, _, _, _, _, _, _]) (B := [_, _, _, _, _, _, _, _, _, _, _, _]) (T := T) [0, 1, 2, 3, 4, 5, 6, 7, 8, 9, 10, 11] 12 (by decide) (by decide) rfl rfl) ?_
              rintro ⟨q, n2⟩ ⟨hq, hn2⟩
              simp only at hq hn2 ⊢
              have hle2 : (kn.take q).countP (fun q => decide (q = k)) ≤ (kn.take q).length := List.countP_le_length
              rw [List.length_take] at hle2
              refine gc_seq ?_
              refine gc_seq ?_
              refine gc_region ?_
              refine gl_op (op_rd rfl (rd_move rfl) ?_)
              refine gl_op (op_rd rfl (rd_move rfl) ?_)
              refine gl_op (op_rd rfl (rd_lenSlice Try.underlying55 rfl) ?_)
              refine gl_op (op_rd rfl (rd_lss rfl rfl) (gk_dec (fun h91 => ?_) (fun h91 => ?_)))
              · skip
                obtain ⟨u, hq2⟩ := get_some (show q < kn.length by omega)
                refine gl_nil ?_
                refine gx_then ?_
                refine gc_cond_t rfl ?_
                refine gc_skip ?_
                refine gx_then ?_
                refine gc_seq ?_
                refine gc_block ?_
                refine gc_seq ?_
                refine gc_drawP [0, 1, 2, 3, 4, 5, 6, 7, 8, 9, 10, 11] true 8 rfl ?_
                refine ga_first 0 #[true, false, false, false, false, false, false, false, false] rfl rfl rfl rfl (by kernel_rfl) rfl ⟨[0, 1, 2, 3, 4, 5, 6, 7, 8, 9, 10, 11], by decide, rfl⟩ (qt_rd (rd_move rfl)) ?_
                refine ga_first 1 #[true, true, false, false, false, false, false, false, false] rfl rfl rfl rfl (by kernel_rfl) rfl ⟨[0, 1, 2, 3, 4, 5, 6, 7, 8, 9, 10, 11], by decide, rfl⟩ (qt_rd (rd_move rfl)) ?_
                refine ga_first 2 #[true, true, true, false, false, false, false, false, false] rfl rfl rfl rfl (by kernel_rfl) rfl ⟨[0, 1, 2, 3, 4, 5, 6, 7, 8, 9, 10, 11], by decide, rfl⟩ (qt_rd (rd_indexRow1 7 rfl Try.underlying55 ty_3 rfl rfl (by omega) (by omega))) ?_
                refine ga_first 3 #[true, true, true, true, false, false, false, false, false] rfl rfl rfl rfl (by kernel_rfl) rfl ⟨[0, 1, 2, 3, 4, 5, 6, 7, 8, 9, 10, 11], by decide, rfl⟩ (qt_rd (rd_load Try.underlying3 rfl rfl (ld_rowN 7 rfl (get_natsL hq2)))) ?_
                refine ga_first 4 #[true, true, true, true, true, false, false, false, false] rfl rfl rfl rfl (by kernel_rfl) rfl ⟨[0, 1, 2, 3, 4, 5, 6, 7, 8, 9, 10, 11], by decide, rfl⟩ (qt_rd (rd_move rfl)) ?_
                refine ga_first 5 #[true, true, true, true, true, true, false, false, false] rfl rfl rfl rfl (by kernel_rfl) rfl ⟨[0, 1, 2, 3, 4, 5, 6, 7, 8, 9, 10, 11], by decide, rfl⟩ (qt_rd (rd_move rfl)) ?_
                refine ga_first 6 #[true, true, true, true, true, true, true, false, false] rfl rfl rfl rfl (by kernel_rfl) rfl ⟨[0, 1, 2, 3, 4, 5, 6, 7, 8, 9, 10, 11], by decide, rfl⟩ (qt_rd (rd_indexRow1 8 rfl Try.underlying55 ty_3 rfl rfl (by omega) (by omega))) ?_
                refine ga_first 7 #[true, true, true, true, true, true, true, true, false] rfl rfl rfl rfl (by kernel_rfl) rfl ⟨[0, 1, 2, 3, 4, 5, 6, 7, 8, 9, 10, 11], by decide, rfl⟩ (qt_rd (rd_load Try.underlying3 rfl rfl (ld_rowN 8 rfl (get_natsL hki)))) ?_
                refine ga_first 8 #[true, true, true, true, true, true, true, true, true] rfl rfl rfl rfl (by kernel_rfl) rfl ⟨[0, 1, 2, 3, 4, 5, 6, 7, 8, 9, 10, 11], by decide, rfl⟩ (qt_rd (rd_eql rfl rfl)) (gk_dec (fun h102 => ?_) (fun h102 => ?_))
                · skip
                  have h102 : u = k := by omega
                  refine ga_end (by kernel_rfl) (.inr ⟨[0, 1, 2, 3, 4, 5, 6, 7, 8, 9, 10, 11], by decide, rfl⟩) ?_
                  refine gx_then ?_
                  refine gc_cond_t rfl ?_
                  refine gc_region ?_
                  refine gl_op (op_rd rfl (rd_move rfl) ?_)
                  refine gl_op (op_rd rfl (by first | exact rd_addN (b := 1) rfl rfl (by omega) | exact rd_add rfl rfl (by omega) (by omega)) ?_)
                  refine gl_op (op_rd rfl (rd_assign rfl) ?_)
                  refine gl_nil ?_
                  refine gx_block ?_
                  refine gx_then ?_
                  refine gc_region ?_
                  refine gl_op (op_rd rfl (rd_move rfl) ?_)
                  refine gl_op (op_rd rfl (by first | exact rd_addN (b := 1) rfl rfl (by omega) | exact rd_add rfl rfl (by omega) (by omega)) ?_)
                  refine gl_op (op_rd rfl (rd_assign rfl) ?_)
                  refine gl_nil ?_
                  refine gx_then ?_
                  exact gx_cut ((q + 1, n2 + 1)) ⟨⟨by simp only; omega, by simp only; rw [take_at hq2, List.countP_append]; simp [h102]; omega⟩, by simp only; omega⟩ ⟨rfl, rfl, rfl, rfl, rfl, rfl, rfl, rfl, rfl, trivial⟩ (sub_tail (A := [_, _, _, _, _, _, _, _, _, _, _, _]) (B := [_, _, _, _, _, _, _, _, _, _, _, _]) (T := T) [0, 1, 2, 3, 4, 5, 6, 7, 8, 9, 10, 11] 12 (by decide) (by decide) rfl rfl)
                · skip
                  have h102 : ¬ u = k := by omega
                  refine ga_end (by kernel_rfl) (.inr ⟨[0, 1, 2, 3, 4, 5, 6, 7, 8, 9, 10, 11], by decide, rfl⟩) ?_
                  refine gx_then ?_
                  refine gc_cond_f rfl ?_
                  refine gc_skip ?_
                  refine gx_block ?_
                  refine gx_then ?_
                  refine gc_region ?_
                  refine gl_op (op_rd rfl (rd_move rfl) ?_)
                  refine gl_op (op_rd rfl (by first | exact rd_addN (b := 1) rfl rfl (by omega) | exact rd_add rfl rfl (by omega) (by omega)) ?_)
                  refine gl_op (op_rd rfl (rd_assign rfl) ?_)
                  refine gl_nil ?_
                  refine gx_then ?_
                  exact gx_cut ((q + 1, n2)) ⟨⟨by simp only; omega, by simp only; rw [take_at hq2, List.countP_append]; simp [h102]; omega⟩, by simp only; omega⟩ ⟨rfl, rfl, rfl, rfl, rfl, rfl, rfl, rfl, rfl, trivial⟩ (sub_tail (A := [_, _, _, _, _, _, _, _, _, _, _, _]) (B := [_, _, _, _, _, _, _, _, _, _, _, _]) (T := T) [0, 1, 2, 3, 4, 5, 6, 7, 8, 9, 10, 11] 12 (by decide) (by decide) rfl rfl)
              · skip
                refine gl_nil ?_
                refine gx_then ?_
                refine gc_cond_f rfl ?_
                refine gc_exit ?_
                refine gx_then_exit ?_
                refine gx_then_exit ?_
                refine gx_block_exit ?_
                refine gx_block ?_
                refine gx_then ?_
                refine gc_region ?_
                refine gl_op (op_rd rfl (rd_move rfl) ?_)
                refine gl_op (op_rd rfl (by first | exact rd_addN (b := 1) rfl rfl (by omega) | exact rd_add rfl rfl (by omega) (by omega)) ?_)
                refine gl_op (op_rd rfl (rd_assign rfl) ?_)
                refine gl_nil ?_
                refine gx_then ?_
                have hqq : q = kn.length := by omega
                subst hqq
                rw [List.take_length, cnt_one hK.nd] at hn2
                exact gx_cut ((i + 1, n2)) ⟨⟨by simp only; omega, by simp only; rw [take_at hki, List.countP_append, ← hn0, hn2]; by_cases e : k ∈ kn <;> simp [e]⟩, by simp only; omega⟩ ⟨rfl, rfl, rfl, rfl, rfl, rfl, rfl, rfl, trivial⟩ (sub_tail (A := [_, _, _, _, _, _, _, _, _, _]) (B := [_, _, _, _, _, _, _, _, _, _, _, _]) (T := T) [7, 2, 3, 4, 5, 6, 8, 9, 10, 11] 12 (by decide) (by decide) rfl rfl)
          · skip
            refine gl_yes rfl rfl (op_rd rfl (rd_move rfl) ?_)
            refine gl_no rfl rfl rfl ?_
            refine gl_no rfl rfl rfl ?_
            refine gl_no rfl rfl rfl ?_
            refine gl_no rfl rfl rfl ?_
            refine gl_no rfl rfl rfl ?_
            refine gl_no rfl rfl rfl ?_
            refine gl_no rfl rfl rfl ?_
            refine gl_noU rfl rfl rfl ?_
            refine gl_noU rfl rfl rfl ?_
            refine gl_noU rfl rfl rfl ?_
            refine gl_noU rfl rfl rfl ?_
            refine gl_noU rfl rfl rfl ?_
            refine gl_no rfl rfl rfl ?_
            refine gl_yes rfl rfl (op_rd rfl (rd_pick_f rfl rfl) ?_)
            refine gl_op (op_rd rfl (rd_pick_f rfl rfl) ?_)
            refine gl_nil ?_
            refine gx_then ?_
            refine gc_cond_f rfl ?_
            refine gc_skip ?_
            refine gx_then ?_
            refine gc_seq ?_
            refine gc_region ?_
            refine gl_op (op_rd rfl (rd_assign rfl) ?_)
            refine gl_nil ?_
            refine gx_then ?_
            refine gc_block ?_
            refine gc_loopF (ι := Nat × Nat) [(0, _), (1, _), (2, _), (3, _), (11, _), (13, _), (15, _)] (_ :: _ :: _ :: _ :: _ :: _ :: _ :: _ :: _ :: _ :: _ :: _ :: T) (fun j => j.1 ≤ kn.length ∧ j.2 = n0 + (kn.take j.1).countP (fun q => decide (q = k))) (fun j Fr0 => ((14, natV j.2) :: (20, natV j.1) :: Fr0)) (fun j Fr0 => Fr0) (fun j => kn.length - j.1) (0, n0) (⟨Nat.zero_le _, rfl⟩) ⟨rfl, rfl, rfl, rfl, rfl, rfl, rfl, rfl, rfl, trivial⟩ (sub_tail (A := [_, _, _, _, _, _, _, _, _, _, _, _]) (B := [_, _, _, _, _, _, _, _, _, _, _, _]) (T := T) [0, 1, 2, 3, 4, 5, 6, 7, 8, 9, 10, 11] 12 (by decide) (by decide) rfl rfl) ?_
            rintro ⟨q, n2⟩ ⟨hq, hn2⟩
            simp only at hq hn2 ⊢
            have hle2 : (kn.take q).countP (fun q => decide (q = k)) ≤ (kn.take q).length := List.countP_le_length
            rw [List.length_take] at hle2
            refine gc_seq ?_
            refine gc_seq ?_
            refine gc_region ?_
            refine gl_op (op_rd rfl (rd_move rfl) ?_)
            refine gl_op (op_rd rfl (rd_move rfl) ?_)
            refine gl_op (op_rd rfl (rd_lenSlice Try.underlying55 rfl) ?_)
            refine gl_op (op_rd rfl (rd_lss rfl rfl) (gk_dec (fun h91 => ?_) (fun h91 => ?_)))
            · skip
              obtain ⟨u, hq2⟩ := get_some (show q < kn.length by omega)
              refine gl_nil ?_
              refine gx_then ?_
              refine gc_cond_t rfl ?_
              refine gc_skip ?_
              refine gx_then ?_
              refine gc_seq ?_
              refine gc_block ?_
              refine gc_seq ?_
              refine gc_drawP [0, 1, 2, 3, 4, 5, 6, 7, 8, 9, 10, 11] true 8 rfl ?_
              refine ga_first 0 #[true, false, false, false, false, false, false, false, false] rfl rfl rfl rfl (by kernel_rfl) rfl ⟨[0, 1, 2, 3, 4, 5, 6, 7, 8, 9, 10, 11], by decide, rfl⟩ (qt_rd (rd_move rfl)) ?_
              refine ga_first 1 #[true, true, false, false, false, false, false, false, false] rfl rfl rfl rfl (by kernel_rfl) rfl ⟨[0, 1, 2, 3, 4, 5, 6, 7, 8, 9, 10, 11], by decide, rfl⟩ (qt_rd (rd_move rfl)) ?_
              refine ga_first 2 #[true, true, true, false, false, false, false, false, false] rfl rfl rfl rfl (by kernel_rfl) rfl ⟨[0, 1, 2, 3, 4, 5, 6, 7, 8, 9, 10, 11], by decide, rfl⟩ (qt_rd (rd_indexRow1 7 rfl Try.underlying55 ty_3 rfl rfl (by omega) (by omega))) ?_
              refine ga_first 3 #[true, true, true, true, false, false, false, false, false] rfl rfl rfl rfl (by kernel_rfl) rfl ⟨[0, 1, 2, 3, 4, 5, 6, 7, 8, 9, 10, 11], by decide, rfl⟩ (qt_rd (rd_load Try.underlying3 rfl rfl (ld_rowN 7 rfl (get_natsL hq2)))) ?_
              refine ga_first 4 #[true, true, true, true, true, false, false, false, false] rfl rfl rfl rfl (by kernel_rfl) rfl ⟨[0, 1, 2, 3, 4, 5, 6, 7, 8, 9, 10, 11], by decide, rfl⟩ (qt_rd (rd_move rfl)) ?_
              refine ga_first 5 #[true, true, true, true, true, true, false, false, false] rfl rfl rfl rfl (by kernel_rfl) rfl ⟨[0, 1, 2, 3, 4, 5, 6, 7, 8, 9, 10, 11], by decide, rfl⟩ (qt_rd (rd_move rfl)) ?_
              refine ga_first 6 #[true, true, true, true, true, true, true, false, false] rfl rfl rfl rfl (by kernel_rfl) rfl ⟨[0, 1, 2, 3, 4, 5, 6, 7, 8, 9, 10, 11], by decide, rfl⟩ (qt_rd (rd_indexRow1 8 rfl Try.underlying55 ty_3 rfl rfl (by omega) (by omega))) ?_
              refine ga_first 7 #[true, true, true, true, true, true, true, true, false] rfl rfl rfl rfl (by kernel_rfl) rfl ⟨[0, 1, 2, 3, 4, 5, 6, 7, 8, 9, 10, 11], by decide, rfl⟩ (qt_rd (rd_load Try.underlying3 rfl rfl (ld_rowN 8 rfl (get_natsL hki)))) ?_
              refine ga_first 8 #[true, true, true, true, true, true, true, true, true] rfl rfl rfl rfl (by kernel_rfl) rfl ⟨[0, 1, 2, 3, 4, 5, 6, 7, 8, 9, 10, 11], by decide, rfl⟩ (qt_rd (rd_eql rfl rfl)) (gk_dec (fun h102 => ?_) (fun h102 => ?_))
              · skip
                have h102 : u = k := by omega
                refine ga_end (by kernel_rfl) (.inr ⟨[0, 1, 2, 3, 4, 5, 6, 7, 8, 9, 10, 11], by decide, rfl⟩) ?_
                refine gx_then ?_
                refine gc_cond_t rfl ?_
                refine gc_region ?_
                refine gl_op (op_rd rfl (rd_move rfl) ?_)
                refine gl_op (op_rd rfl (by first | exact rd_addN (b := 1) rfl rfl (by omega) | exact rd_add rfl rfl (by omega) (by omega)) ?_)
                refine gl_op (op_rd rfl (rd_assign rfl) ?_)
                refine gl_nil ?_
                refine gx_block ?_
                refine gx_then ?_
                refine gc_region ?_
                refine gl_op (op_rd rfl (rd_move rfl) ?_)
                refine gl_op (op_rd rfl (by first | exact rd_addN (b := 1) rfl rfl (by omega) | exact rd_add rfl rfl (by omega) (by omega)) ?_)
                refine gl_op (op_rd rfl (rd_assign rfl) ?_)
                refine gl_nil ?_
                refine gx_then ?_
                exact gx_cut ((q + 1, n2 + 1)) ⟨⟨by simp only; omega, by simp only; rw [take_at hq2, List.countP_append]; simp [h102]; omega⟩, by simp only; omega⟩ ⟨rfl, rfl, rfl, rfl, rfl, rfl, rfl, rfl, rfl, trivial⟩ (sub_tail (A := [_, _, _, _, _, _, _, _, _, _, _, _]) (B := [_, _, _, _, _, _, _, _, _, _, _, _]) (T := T) [0, 1, 2, 3, 4, 5, 6, 7, 8, 9, 10, 11] 12 (by decide) (by decide) rfl rfl)
              · skip
                have h102 : ¬ u = k := by omega
                refine ga_end (by kernel_rfl) (.inr ⟨[0, 1, 2, 3, 4, 5, 6, 7, 8, 9, 10, 11], by decide, rfl⟩) ?_
                refine gx_then ?_
                refine gc_cond_f rfl ?_
                refine gc_skip ?_
                refine gx_block ?_
                refine gx_then ?_
                refine gc_region ?_
                refine gl_op (op_rd rfl (rd_move rfl) ?_)
                refine gl_op (op_rd rfl (by first | exact rd_addN (b := 1) rfl rfl (by omega) | exact rd_add rfl rfl (by omega) (by omega)) ?_)
                refine gl_op (op_rd rfl (rd_assign rfl) ?_)
                refine gl_nil ?_
                refine gx_then ?_
                exact gx_cut ((q + 1, n2)) ⟨⟨by simp only; omega, by simp only; rw [take_at hq2, List.countP_append]; simp [h102]; omega⟩, by simp only; omega⟩ ⟨rfl, rfl, rfl, rfl, rfl, rfl, rfl, rfl, rfl, trivial⟩ (sub_tail (A := [_, _, _, _, _, _, _, _, _, _, _, _]) (B := [_, _, _, _, _, _, _, _, _, _, _, _]) (T := T) [0, 1, 2, 3, 4, 5, 6, 7, 8, 9, 10, 11] 12 (by decide) (by decide) rfl rfl)
            · skip
              refine gl_nil ?_
              refine gx_then ?_
              refine gc_cond_f rfl ?_
              refine gc_exit ?_
              refine gx_then_exit ?_
              refine gx_then_exit ?_
              refine gx_block_exit ?_
              refine gx_block ?_
              refine gx_then ?_
              refine gc_region ?_
              refine gl_op (op_rd rfl (rd_move rfl) ?_)
              refine gl_op (op_rd rfl (by first | exact rd_addN (b := 1) rfl rfl (by omega) | exact rd_add rfl rfl (by omega) (by omega)) ?_)
              refine gl_op (op_rd rfl (rd_assign rfl) ?_)
              refine gl_nil ?_
              refine gx_then ?_
              have hqq : q = kn.length := by omega
              subst hqq
              rw [List.take_length, cnt_one hK.nd] at hn2
              exact gx_cut ((i + 1, n2)) ⟨⟨by simp only; omega, by simp only; rw [take_at hki, List.countP_append, ← hn0, hn2]; by_cases e : k ∈ kn <;> simp [e]⟩, by simp only; omega⟩ ⟨rfl, rfl, rfl, rfl, rfl, rfl, rfl, rfl, trivial⟩ (sub_tail (A := [_, _, _, _, _, _, _, _, _, _]) (B := [_, _, _, _, _, _, _, _, _, _, _, _]) (T := T) [7, 2, 3, 4, 5, 6, 8, 9, 10, 11] 12 (by decide) (by decide) rfl rfl)
      · skip
        refine gl_nil ?_
        refine gx_then ?_
        refine gc_cond_f rfl ?_
        refine gc_exit ?_
        refine gx_then_exit ?_
        refine gx_then_exit ?_
        refine gx_block_exit ?_
        refine gx_then ?_
        refine gc_seq ?_
        have hii : i = ks.length := by omega
        rw [hii, List.take_length, hK.cnt] at hn0
        have hkl := hK.len
        refine gc_region ?_
        refine gl_op (op_rd rfl (rd_move rfl) ?_)
        refine gl_op (op_rd rfl (rd_move rfl) ?_)
        refine gl_op (op_rd rfl (rd_lenSlice Try.underlying55 rfl) ?_)
        refine gl_op (op_rd rfl (rd_eql rfl rfl) (gk_dec (fun h108 => ?_) (fun h108 => ?_)))
        · skip
          refine gl_op (op_rd rfl (rd_move rfl) ?_)
          refine gl_yes rfl rfl (op_rd rfl (rd_move rfl) ?_)
          refine gl_yes rfl rfl (op_rd rfl (rd_lenSlice Try.underlying55 rfl) ?_)
          refine gl_yes rfl rfl (op_rd rfl (rd_move rfl) ?_)
          refine gl_yes rfl rfl (op_rd rfl (rd_eql rfl rfl) (gk_dec (fun h113 => ?_) (fun h113 => ?_)))
          · skip
            refine gl_yes rfl rfl (op_rd rfl (rd_move rfl) ?_)
            refine gl_no rfl rfl rfl ?_
            refine gl_no rfl rfl rfl ?_
            refine gl_no rfl rfl rfl ?_
            refine gl_no rfl rfl rfl ?_
            refine gl_no rfl rfl rfl ?_
            refine gl_yes rfl rfl (op_rd rfl (rd_pick_t rfl rfl) ?_)
            refine gl_op (op_rd rfl (rd_pick_t rfl rfl) ?_)
            refine gl_op (op_rd rfl (rd_assign rfl) ?_)
            refine gl_nil ?_
            refine gx_then ?_
            refine gc_ret ?_
            refine gx_ret1S (.inl rfl) Try.results23 rfl (sub_tail (A := [_, _, _, _, _, _, _]) (B := [_, _, _, _, _, _, _, _, _, _]) (T := T) [1, 2, 3, 4, 5, 8, 9] 10 (by decide) (by decide) rfl rfl) ?_
            exact ⟨rfl, rfl⟩
          · skip
            refine gl_yes rfl rfl (op_rd rfl (rd_move rfl) ?_)
            refine gl_yes rfl rfl (op_rd rfl (rd_move rfl) ?_)
            refine gl_yes rfl rfl (op_rd rfl (rd_lenSlice Try.underlying55 rfl) ?_)
            refine gl_yes rfl rfl (op_rd rfl (rd_move rfl) ?_)
            refine gl_yes rfl rfl (op_rd rfl (by first | exact rd_addN (b := 1) rfl rfl (by omega) | exact rd_add rfl rfl (by omega) (by omega)) ?_)
            refine gl_yes rfl rfl (op_rd rfl (rd_eql rfl rfl) (gk_dec (fun h119 => ?_) (fun h119 => ?_)))
            · skip
              refine gl_yes rfl rfl (op_rd rfl (rd_pick_f rfl rfl) ?_)
              refine gl_op (op_rd rfl (rd_pick_t rfl rfl) ?_)
              refine gl_op (op_rd rfl (rd_assign rfl) ?_)
              refine gl_nil ?_
              refine gx_then ?_
              refine gc_ret ?_
              refine gx_ret1S (.inl rfl) Try.results23 rfl (sub_tail (A := [_, _, _, _, _, _, _]) (B := [_, _, _, _, _, _, _, _, _, _]) (T := T) [1, 2, 3, 4, 5, 8, 9] 10 (by decide) (by decide) rfl rfl) ?_
              exact ⟨rfl, rfl⟩
            · skip
              exfalso; omega
        · skip
          exfalso; omega

end Go.Proofs.Ythcbcdjkfefnlaa

set_option autoImplicit false
set_option linter.unusedVariables false
namespace Go.Proofs.Ythcbcdjkfefnlaa
open Go.Gv
open Go.RowKit
open Iv
namespace Iv
structure SvS where
  j : Nat
  rp : Option Nat
  cp : Nat
  bs : Nat
  bm : Nat
  id : Nat
  num : Nat
  fb : Nat
  f : Fl
  m : List (ME He)
  nb : Nat
  T : List HL
  V : Vals
  L : List Rv
  rL : Option Nat
  cL : Nat
structure SvS.Ok (s : SvS) (n : Nat) : Prop where
  st : StOk s.f s.id s.m s.nb s.T s.num s.fb s.V
  rf : RfOk s.L s.T s.V
  left : s.f.left = -1
  len : s.f.b.length = 256 * n
  er : s.f.er ≤ 4 * s.j + 1
  pr : s.f.pr ≤ 100000 * s.j
  hst : s.f.st ≤ 2 * s.j + 1
  num : s.num ≤ s.j
/-- the state of the loop that says again what is there -/
structure AgS where
  k : Nat
  W : Vals
  L : List Rv
  rL : Option Nat
  cL : Nat
  T : List HL
theorem StOk.restart {f : Fl} {id : Nat} {m : List (ME He)} {nb : Nat} {T : List HL} {num fb : Nat} {V : Vals} (h : StOk f id m nb T num fb V) : StOk (flRestart f) id m nb T num fb V := ⟨restart_okP h.ok, rfl, h.hid, h.ms, h.si, h.cap⟩
theorem StOk.fuse {f : Fl} {id : Nat} {m : List (ME He)} {nb : Nat} {T : List HL} {num fb : Nat} {V : Vals} (h : StOk f id m nb T num fb V) {n : Nat} {ps : List Nat} (hn : n < 9223372036854775808) (hp : ps.length ≤ 256) (hv : ∀ z ∈ ps, z < 256) : StOk { f with left := (n : Int), picks := ps } id m nb T num fb V :=
  ⟨⟨h.ok.bs, hv, h.ok.len, h.ok.lo, h.ok.hi, hp, h.ok.pr, h.ok.er, h.ok.st, by simp only; omega, by simp only; omega⟩, h.dn, h.hid, h.ms, h.si, h.cap⟩
theorem fullW {f : Fl} {id : Nat} {m : List (ME He)} {nb : Nat} {T T2 : List HL} {num fb : Nat} {V V2 W : Vals} {L : List Rv} {key c : Nat} (hst : StOk f id m nb T num fb V) (hrf : RfOk L T2 W) (hW : W = V ∨ W = V2) (hs : (V2 key).isSome = true) (hnf : ¬ FullV V key c m.length) : ¬ FullV W key c L.length := by
  rcases hW with rfl | rfl
  · rw [← (same_keys hst hrf).2]; exact hnf
  · intro h; rw [h.1] at hs; cases hs
theorem updW {V V2 W : Vals} {key n1 m2 : Nat} {vs now : List Nat} (hW : W = V ∨ W = V2) (hrel : V2 = V ∨ V2 = updV V key n1 vs) (h : V2 key = some (m2, now)) : updV W key m2 now = V2 := by
  rcases hW with rfl | rfl
  · rcases hrel with rfl | rfl
    · exact updV_same h
    · simp only [updV] at h
      rw [if_pos trivial] at h
      cases h; rfl
  · exact updV_same h
theorem endW {V V2 W : Vals} {key n1 : Nat} {vs : List Nat} {ks : List Nat} (hW : W = V ∨ W = V2) (hrel : V2 = V ∨ V2 = updV V key n1 vs) (h : key ∈ ks → W = V2) (hk : key ∈ ks ↔ (V2 key).isSome = true) : W = V2 := by
  by_cases e : key ∈ ks
  · exact h e
  · rcases hrel with rfl | rfl
    · rcases hW with h | h <;> exact h
    · refine absurd (hk.2 ?_) e
      simp [updV]
end Iv

set_option maxRecDepth 100000 in
set_option maxHeartbeats 8000000 in
theorem StoreSurvives_ok (b : Nat) (hb256 : b < 256) (l : List Sloss) (a : Option Addr) (ca : Nat) (w0 : World) (hsl : OldSl w0 [] a l.length 6 (l.flatMap Sloss.cells)) (hlen : l.length ≤ 140737488355328) (hin : ∀ g ∈ l, g.In w0 []) : Sp Try.prog 4 [.int .u8 (b : Int), .slice a l.length ca] w0 [] (RV (.bool true)) := by
  refine spec_enter Try.func4 rfl Try.ntmps4 rfl (Own.refl _) ?_
  simp only [argEnv]
  refine gc_seq ?_
  refine gc_region ?_
  refine gl_op (op_rd rfl (rd_assign rfl) ?_)
  refine gl_nil ?_
  refine gx_then ?_
  refine gc_seq ?_
  refine gc_seq ?_
  refine gc_region ?_
  refine gl_op (op_rd rfl (rd_move rfl) ?_)
  refine gl_op (op_rd rfl (rd_lenSlice Try.underlying48 rfl) ?_)
  refine gl_op (op_rd rfl (rd_gtr rfl rfl) (gk_dec (fun h27 => ?_) (fun h27 => ?_)))
  · skip
    refine gl_nil ?_
    refine gx_then ?_
    refine gc_cond_t rfl ?_
    refine gc_seq ?_
    refine gc_region ?_
    refine gl_op (op_call rfl (vf := []) (vc := []) rfl rfl Try.call9 (fun w1 ho => shown_ok w1) ?_)
    rintro _ _ ⟨rfl, rfl⟩
    refine gl_op (op_rd rfl (rd_assign rfl) ?_)
    refine gl_nil ?_
    refine gx_then ?_
    refine gc_ret ?_
    refine gx_then_ret ?_
    refine gx_ret1 (.inl rfl) Try.results4 rfl [] (by decide) ?_
    exact ⟨rfl, rfl⟩
  · skip
    refine gl_nil ?_
    refine gx_then ?_
    refine gc_cond_f rfl ?_
    refine gc_skip ?_
    refine gx_then ?_
    refine gc_seq ?_
    refine gc_seq ?_
    refine gc_region ?_
    refine gl_op (op_rd rfl (rd_assign rfl) ?_)
    refine gl_nil ?_
    refine gx_then ?_
    refine gc_block ?_
    refine gc_loopF (ι := Nat) [(0, _), (1, _)] [] (fun i => i ≤ l.length ∧ ∀ j y, j < i → l[j]? = some y → y.v.length ≤ 100 ∧ y.ps.length ≤ 256) (fun i Fr0 => ((5, natV i) :: Fr0)) (fun i Fr0 => Fr0) (fun i => l.length - i) 0 (⟨Nat.zero_le _, fun j y h => absurd h (Nat.not_lt_zero _)⟩) ⟨rfl, rfl, rfl, trivial⟩ ⟨[], by decide, rfl⟩ ?_
    rintro i ⟨hi, hb⟩
    refine gc_seq ?_
    refine gc_seq ?_
    refine gc_region ?_
    refine gl_op (op_rd rfl (rd_move rfl) ?_)
    refine gl_op (op_rd rfl (rd_move rfl) ?_)
    refine gl_op (op_rd rfl (rd_lenSlice Try.underlying48 rfl) ?_)
    refine gl_op (op_rd rfl (rd_lss rfl rfl) (gk_dec (fun h32 => ?_) (fun h32 => ?_)))
    · skip
      obtain ⟨x, hx⟩ := get_some (show i < l.length by omega)
      refine gl_nil ?_
      refine gx_then ?_
      refine gc_cond_t rfl ?_
      refine gc_skip ?_
      refine gx_then ?_
      refine gc_seq ?_
      refine gc_block ?_
      refine gc_seq ?_
      refine gc_region ?_
      refine gl_op (op_rd rfl (rd_move rfl) ?_)
      refine gl_op (op_rd rfl (rd_move rfl) ?_)
      refine gl_op (op_rd rfl (rd_indexOld hsl Try.underlying48 ty_51 rfl rfl (by omega) (by omega)) ?_)
      refine gl_op (op_rd rfl (rd_fieldAddr rfl (fa_51_1 _)) ?_)
      refine gl_op (op_rd rfl (rd_load Try.underlying36 rfl rfl (ld_slf hsl (get_flat Sloss.cells 6 (fun _ => rfl) hx (j := 1) (by decide) rfl))) ?_)
      refine gl_op (op_rd rfl (rd_lenSlice Try.underlying36 rfl) ?_)
      refine gl_op (op_rd rfl (rd_gtr rfl rfl) (gk_dec (fun h41 => ?_) (fun h41 => ?_)))
      · skip
        refine gl_op (op_rd rfl (rd_move rfl) ?_)
        refine gl_no rfl rfl rfl ?_
        refine gl_no rfl rfl rfl ?_
        refine gl_no rfl rfl rfl ?_
        refine gl_no rfl rfl rfl ?_
        refine gl_no rfl rfl rfl ?_
        refine gl_no rfl rfl rfl ?_
        refine gl_no rfl rfl rfl ?_
        refine gl_op (op_rd rfl (rd_pick_t rfl rfl) ?_)
        refine gl_nil ?_
        refine gx_then ?_
        refine gc_cond_t rfl ?_
        refine gc_seq ?_
        refine gc_region ?_
        refine gl_op (op_call rfl (vf := []) (vc := []) rfl rfl Try.call9 (fun w1 ho => shown_ok w1) ?_)
        rintro _ _ ⟨rfl, rfl⟩
        refine gl_op (op_rd rfl (rd_assign rfl) ?_)
        refine gl_nil ?_
        refine gx_then ?_
        refine gc_ret ?_
        refine gx_block_ret ?_
        refine gx_then_ret ?_
        refine gx_then_ret ?_
        refine gx_block_ret ?_
        refine gx_then_ret ?_
        refine gx_ret1 (.inl rfl) Try.results4 rfl [] (by decide) ?_
        exact ⟨rfl, rfl⟩
      · skip
        refine gl_op (op_rd rfl (rd_move rfl) ?_)
        refine gl_yes rfl rfl (op_rd rfl (rd_move rfl) ?_)
        refine gl_yes rfl rfl (op_rd rfl (rd_move rfl) ?_)
        refine gl_yes rfl rfl (op_rd rfl (rd_indexOld hsl Try.underlying48 ty_51 rfl rfl (by omega) (by omega)) ?_)
        refine gl_yes rfl rfl (op_rd rfl (rd_fieldAddr rfl (fa_51_5 _)) ?_)
        refine gl_yes rfl rfl (op_rd rfl (rd_load Try.underlying36 rfl rfl (ld_slf hsl (get_flat Sloss.cells 6 (fun _ => rfl) hx (j := 5) (by decide) rfl))) ?_)
        refine gl_yes rfl rfl (op_rd rfl (rd_lenSlice Try.underlying36 rfl) ?_)
        refine gl_yes rfl rfl (op_rd rfl (rd_gtr rfl rfl) (gk_dec (fun h49 => ?_) (fun h49 => ?_)))
        · skip
          refine gl_op (op_rd rfl (rd_pick_f rfl rfl) ?_)
          refine gl_nil ?_
          refine gx_then ?_
          refine gc_cond_t rfl ?_
          refine gc_seq ?_
          refine gc_region ?_
          refine gl_op (op_call rfl (vf := []) (vc := []) rfl rfl Try.call9 (fun w1 ho => shown_ok w1) ?_)
          rintro _ _ ⟨rfl, rfl⟩
          refine gl_op (op_rd rfl (rd_assign rfl) ?_)
          refine gl_nil ?_
          refine gx_then ?_
          refine gc_ret ?_
          refine gx_block_ret ?_
          refine gx_then_ret ?_
          refine gx_then_ret ?_
          refine gx_block_ret ?_
          refine gx_then_ret ?_
          refine gx_ret1 (.inl rfl) Try.results4 rfl [] (by decide) ?_
          exact ⟨rfl, rfl⟩
        · skip
          refine gl_op (op_rd rfl (rd_pick_f rfl rfl) ?_)
          refine gl_nil ?_
          refine gx_then ?_
          refine gc_cond_f rfl ?_
          refine gc_skip ?_
          refine gx_block ?_
          refine gx_then ?_
          refine gc_region ?_
          refine gl_op (op_rd rfl (rd_move rfl) ?_)
          refine gl_op (op_rd rfl (by first | exact rd_addN (b := 1) rfl rfl (by omega) | exact rd_add rfl rfl (by omega) (by omega)) ?_)
          refine gl_op (op_rd rfl (rd_assign rfl) ?_)
          refine gl_nil ?_
          refine gx_then ?_
          exact gx_cut (i + 1) ⟨⟨by omega, fun j y hj hy => by rcases (show j < i ∨ j = i by omega) with h | h; exact hb j y h hy; subst h; rw [hx] at hy; cases hy; exact ⟨by omega, by omega⟩⟩, by omega⟩ ⟨rfl, rfl, rfl, trivial⟩ ⟨[], by decide, rfl⟩
    · skip
      refine gl_nil ?_
      refine gx_then ?_
      refine gc_cond_f rfl ?_
      refine gc_exit ?_
      refine gx_then_exit ?_
      refine gx_then_exit ?_
      refine gx_block_exit ?_
      refine gx_then ?_
      refine gc_seq ?_
      have hsmall : ∀ x ∈ l, x.v.length ≤ 100 ∧ x.ps.length ≤ 256 := fun x hx => by
        obtain ⟨j, hj⟩ := List.getElem?_of_mem hx
        have hjl : j < l.length := by
          rcases Nat.lt_or_ge j l.length with h | h
          · exact h
          · rw [List.getElem?_eq_none h] at hj; cases hj
        exact hb j x (by omega) hj
      obtain ⟨n, hn⟩ : ∃ n, 4 + b % 4 = n := ⟨_, rfl⟩
      refine gc_region ?_
      refine gl_op (op_rd rfl (rd_move rfl) ?_)
      refine gl_op (op_rd rfl (rd_conv Try.runUnderlying5 Try.runUnderlying3 rfl (wrap_i64_nat (by omega))) ?_)
      refine gl_op (op_rd rfl (by first | exact rd_remN (b := 4) rfl rfl (by omega) | exact rd_rem rfl rfl (by omega) (by omega)) ?_)
      refine gl_op (op_rd rfl (by first | exact rd_addN (a := 4) rfl rfl (by omega) | exact rd_add rfl rfl (by omega) (by omega)) ?_)
      refine gl_op (op_rd rfl (rd_assign rfl) ?_)
      refine gl_nil ?_
      refine gx_then ?_
      refine gc_seq ?_
      rw [hn]
      refine gc_region ?_
      refine gl_op (op_rd rfl (rd_move rfl) ?_)
      refine gl_op (op_call rfl (vf := []) (vc := []) rfl rfl Try.call10 (fun w1 ho => New_ok n (by omega) (by omega) w1) ?_)
      rintro _ _ ⟨bf, rb, cb, rfl, rfl⟩
      have hfr := new_fresh (n := n) (by omega) (by omega)
      obtain ⟨f0, hf0⟩ : ∃ f, flNew (List.replicate (256 * n) 255) = f := ⟨_, rfl⟩
      have hst0 : f0.st = 0 := by rw [← hf0]; rfl
      have hall : ∀ z ∈ f0.b, z = 255 := fun z hz => by rw [← hf0] at hz; exact List.eq_of_mem_replicate hz
      rw [hf0] at hfr
      rw [show flNew (List.replicate (256 * n) 255) = f0 from hf0]
      have hfl := hfr.len
      have hfer := hfr.er
      have hfpr := hfr.pr
      have hfi0 := fi_new hall hfr.ok.len (by omega)
      refine gl_op (op_rd rfl (rd_move rfl) ?_)
      refine gl_op (op_rd rfl (rd_extract rfl rfl) ?_)
      refine gl_op (op_rd rfl (rd_extract rfl rfl) ?_)
      refine gl_op (op_rd rfl (rd_assign rfl) ?_)
      refine gl_op (op_rd rfl (rd_assign rfl) ?_)
      refine gl_nil ?_
      refine gx_then ?_
      refine gc_seq ?_
      refine gc_region ?_
      refine gl_op (op_rd rfl (rd_move rfl) ?_)
      refine gl_op (op_callM [0, 1, 2] [] rfl (vf := []) (vc := []) rfl rfl Try.call11 (by decide) rfl (fun w how hc => OpenG_ok f0 hfr.ok bf rb cb none 0 0 _ hfi0 ⟨0, by omega, em_spare hfi0.lt (fun i hi => hall _ (gB_mem (by omega)))⟩ (capV_none _) _ w hc (by omega) (by omega) hfr.dn) ?_)
      rintro _ _ (⟨bs, bm, m, nb, T, num, f1, fb, rfl, hG, rfl⟩ | ⟨f2, rfl, hT, rfl⟩)
      · skip
        refine gk_mid [_, _, _, _, _] T [] ?_
        have hG1 := hG.er
        have hG2 := hG.pr
        have hG3 := hG.hst
        have hG4 := hG.num
        have hG5 := hG.len
        refine gl_op (op_rd rfl (rd_move rfl) ?_)
        refine gl_op (op_rd rfl (rd_extract rfl rfl) ?_)
        refine gl_op (op_rd rfl (rd_extract rfl rfl) ?_)
        refine gl_op (op_rd rfl (rd_assign rfl) ?_)
        refine gl_op (op_rd rfl (rd_assign rfl) ?_)
        refine gl_nil ?_
        refine gx_then ?_
        refine gc_seq ?_
        refine gc_seq ?_
        refine gc_region ?_
        refine gl_op (op_rd rfl (rd_move rfl) ?_)
        refine gl_op (op_rd rfl (rd_neq rfl rfl) (gk_dec (fun h67 => ?_) (fun h67 => ?_)))
        · skip
          exact absurd rfl h67
        · skip
          refine gl_op (op_rd rfl (rd_move rfl) ?_)
          refine gl_yes rfl rfl (op_rd rfl (rd_move rfl) ?_)
          refine gl_yes rfl rfl (op_rd rfl (rd_neq rfl rfl) (gk_dec (fun h70 => ?_) (fun h70 => ?_)))
          · skip
            exact absurd rfl h70
          · skip
            refine gl_op (op_rd rfl (rd_pick_f rfl rfl) ?_)
            refine gl_nil ?_
            refine gx_then ?_
            refine gc_cond_f rfl ?_
            refine gc_skip ?_
            refine gx_then ?_
            refine gc_seq ?_
            refine gc_region ?_
            refine gl_op (op_rd rfl (rd_move rfl) ?_)
            refine gl_op (op_rd rfl (rd_build rfl (fun _ => bd_35_0 _)) ?_)
            refine gl_op (op_box rfl rfl rfl (fun br => ?_))
            refine gl_op (op_rd rfl (rd_assign rfl) ?_)
            refine gl_nil ?_
            refine gx_then ?_
            refine gc_seq ?_
            refine gc_seq ?_
            refine gk_nil 99 2 ?_
            have hnn : n = f1.b.length / 256 := by omega
            rw [show (HL.blk br _ 35) = .blk br (RsC (f1.b.length / 256) none 0 []) 35 by rw [← hnn]; rfl]
            refine gc_region ?_
            refine gl_op (op_rd rfl (rd_assign rfl) ?_)
            refine gl_nil ?_
            refine gx_then ?_
            refine gc_block ?_
            refine gc_loopF (ι := SvS) [(1, _), (6, _), (7, _), (11, _)] [] (fun s => s.j ≤ l.length ∧ s.Ok n) (fun s Fr0 => ((9, .pointer (some ⟨s.bs, 0, none⟩)) :: (12, natV s.j) :: Fr0)) (fun s Fr0 => (.blk s.bs [.bool true, .pointer (some ⟨bf, 0, none⟩), natV s.id, .map (some s.bm), .int .u32 ((s.num : Nat) : Int), .int .i64 ((s.fb : Nat) : Int)] 81 :: .obj s.bm (mapO HV s.m s.nb) :: .blk bf (s.f.cells rb cb s.rp s.cp) 72 :: .row 5 1 rb s.f.b.length cb (s.f.b.map u8V) :: .row 5 1 s.rp s.f.picks.length s.cp (s.f.picks.map u8V) :: .blk br (RsC (s.f.b.length / 256) s.rL s.cL s.L) 35 :: .row 99 2 s.rL s.L.length s.cL (s.L.flatMap Rv.cells) :: (Fr0 ++ s.T))) (fun s => l.length - s.j) ⟨0, none, 0, bs, bm, (f0.st + 1), num, fb, f1, m, nb, T, (fun _ => none), [], none, 0⟩ (⟨Nat.zero_le _, hG.st, rf_nil T, hG.no hfr.left, by simp only; omega, by simp only; omega, by simp only; omega, by simp only; omega, by simp only; omega⟩) ⟨rfl, rfl, rfl, rfl, rfl, rfl, trivial⟩ (sub_tail (A := [_, _, _, _, _, _, _]) (B := [_, _, _, _, _, _, _]) (T := T) [2, 3, 4, 5, 6, 1, 0] 7 (by decide) (by decide) rfl rfl) ?_
            rintro ⟨j, rp, cp, bs, bm, id, num, fb, f, m, nb, T, V, L, rL, cL⟩ ⟨hj, hok⟩
            simp only at hj hok ⊢
            have hst : StOk f id m nb T num fb V := hok.st
            have hrf : RfOk L T V := hok.rf
            have hfo := hst.ok
            have hbl := hfo.hi
            have hbl0 := hfo.lo
            have k1 : f.er ≤ 4 * j + 1 := hok.er
            have k2 : f.pr ≤ 100000 * j := hok.pr
            have k3 : f.st ≤ 2 * j + 1 := hok.hst
            have k4 : num ≤ j := hok.num
            have k5 : f.b.length = 256 * n := hok.len
            have hsk := same_keys hst hrf
            have hsl2 := hsk.2
            have hcap := hst.cap
            have hLb : L.length ≤ 100000 := by omega
            clear hok
            refine gc_seq ?_
            refine gc_seq ?_
            refine gc_region ?_
            refine gl_op (op_rd rfl (rd_move rfl) ?_)
            refine gl_op (op_rd rfl (rd_move rfl) ?_)
            refine gl_op (op_rd rfl (rd_lenSlice Try.underlying48 rfl) ?_)
            refine gl_op (op_rd rfl (rd_lss rfl rfl) (gk_dec (fun h78 => ?_) (fun h78 => ?_)))
            · skip
              obtain ⟨⟨kk, va, vc, v, lose, again, after, pa, pc, ps⟩, hx⟩ := get_some (show j < l.length by omega)
              have hxm := List.mem_of_getElem? hx
              have hxin := hin _ hxm
              have hkk : kk < 65536 := hxin.key
              have haf : after < 65536 := hxin.after
              have hvl : v.length ≤ 140737488355328 := hxin.vlen
              have hpl : ps.length ≤ 140737488355328 := hxin.plen
              have hvv : ∀ z ∈ v, z < 256 := hxin.v
              have hpv : ∀ z ∈ ps, z < 256 := hxin.ps
              have hvsl : OldSl w0 [] va v.length 1 (v.map u8V) := hxin.vsl
              have hpsl : OldSl w0 [] pa ps.length 1 (ps.map u8V) := hxin.psl
              obtain ⟨hv100, hp256⟩ : v.length ≤ 100 ∧ ps.length ≤ 256 := hsmall _ hxm
              clear hxin
              refine gl_nil ?_
              refine gx_then ?_
              refine gc_cond_t rfl ?_
              refine gc_skip ?_
              refine gx_then ?_
              refine gc_seq ?_
              refine gc_block ?_
              refine gc_seq ?_
              refine gc_region ?_
              refine gl_op (op_rd rfl (rd_move rfl) ?_)
              refine gl_op (op_rd rfl (rd_move rfl) ?_)
              refine gl_op (op_rd rfl (rd_indexOld hsl Try.underlying48 ty_51 rfl rfl (by omega) (by omega)) ?_)
              refine gl_op (op_rd rfl (rd_loadAgg Try.underlying51 rfl ty_51 rfl (cs_slN hsl (show _ = [.int .u16 (kk : Int), .slice va v.length vc, .bool lose, .bool again, .int .u16 (after : Int), .slice pa ps.length pc] from flat_drop_get Sloss.cells 6 (fun _ => rfl) hx)) rfl) ?_)
              refine gl_op (op_alloc ty_51 rfl rfl (fun b13 => ?_))
              first | refine gl_op (op_storeAgg 0 ty_51 rfl rfl rfl rfl rfl rfl (by first | rfl | (simp only [List.set_cons_succ, List.set_cons_zero]; exact rfl)) ?_) | refine gl_op (op_storeAgg 1 ty_51 rfl rfl rfl rfl rfl rfl (by first | rfl | (simp only [List.set_cons_succ, List.set_cons_zero]; exact rfl)) ?_) | refine gl_op (op_storeAgg 3 ty_51 rfl rfl rfl rfl rfl rfl (by first | rfl | (simp only [List.set_cons_succ, List.set_cons_zero]; exact rfl)) ?_) | refine gl_op (op_storeAgg 6 ty_51 rfl rfl rfl rfl rfl rfl (by first | rfl | (simp only [List.set_cons_succ, List.set_cons_zero]; exact rfl)) ?_) | refine gl_op (op_storeRowAgg 4 ty_51 rfl rfl rfl rfl rfl (by simp; omega) (by first | rfl | (simp only [List.set_cons_succ, List.set_cons_zero]; exact rfl)) ?_) | refine gl_op (op_storeRowAgg 5 ty_51 rfl rfl rfl rfl rfl (by simp; omega) (by first | rfl | (simp only [List.set_cons_succ, List.set_cons_zero]; exact rfl)) ?_) | refine gl_op (op_storeRowAgg 7 ty_51 rfl rfl rfl rfl rfl (by simp; omega) (by first | rfl | (simp only [List.set_cons_succ, List.set_cons_zero]; exact rfl)) ?_)
              refine gl_nil ?_
              refine gx_then ?_
              refine gc_seq ?_
              refine gc_region ?_
              refine gl_op (op_rd rfl (rd_fieldAddr rfl (fa_51_0 _)) ?_)
              refine gl_op (op_rd rfl (rd_load Try.underlying49 rfl rfl (by first | exact ld_blk 0 rfl rfl | exact ld_blk 1 rfl rfl | exact ld_blk 3 rfl rfl | exact ld_blk 6 rfl rfl | exact ld_old (by assumption) (by simp) | exact ld_cells (by assumption) (by simp) rfl)) ?_)
              refine gl_op (op_rd rfl (rd_conv Try.runUnderlying49 Try.runUnderlying3 rfl (wrap_i64_nat (by omega))) ?_)
              refine gl_op (op_rd rfl (rd_move rfl) ?_)
              refine gl_op (op_rd rfl (by first | exact rd_subN (b := 2) rfl rfl (by omega) (by omega) | exact rd_sub rfl rfl (by omega) (by omega)) ?_)
              refine gl_op (op_rd rfl (by first | exact rd_mulN (a := 10) rfl rfl (by omega) | exact rd_mul rfl rfl (by omega) (by omega)) ?_)
              refine gl_op (op_rd rfl (by first | exact rd_addN (b := 3) rfl rfl (by omega) | exact rd_add rfl rfl (by omega) (by omega)) ?_)
              refine gl_op (op_rd rfl (by first | exact rd_remN rfl rfl (by omega) | exact rd_rem rfl rfl (by omega) (by omega)) ?_)
              refine gl_op (op_rd rfl (rd_assign rfl) ?_)
              refine gl_nil ?_
              refine gx_then ?_
              refine gc_seq ?_
              refine gc_seq ?_
              obtain ⟨key, hkey⟩ : ∃ key, kk % (10 * (n - 2) + 3) = key := ⟨_, rfl⟩
              have hkey9 : key ≤ 999 := by
                have := Nat.mod_lt kk (show 0 < 10 * (n - 2) + 3 by omega)
                omega
              rw [hkey]
              refine gc_region ?_
              refine gl_op (op_rd rfl (rd_fieldAddr rfl (fa_51_2 _)) ?_)
              refine gl_op (op_rd rfl (rd_load Try.underlying4 rfl rfl (by first | exact ld_blk 0 rfl rfl | exact ld_blk 1 rfl rfl | exact ld_blk 3 rfl rfl | exact ld_blk 6 rfl rfl | exact ld_rowN 4 rfl (get_bools (by omega)) | exact ld_rowN 5 rfl (get_bools (by omega)) | exact ld_rowN 7 rfl (get_bools (by omega)) | exact ld_slN (by assumption) (get_bools (by omega)) | exact ld_old (by assumption) (by simp) | exact ld_cells (by assumption) (by simp) rfl)) ?_)
              refine gk_bool (fun hlose => ?_) (fun hlose => ?_)
              · skip
                have hst1 := hst.fuse (n := after % 300) (by omega) hp256 hpv
                refine gl_op (op_rd rfl (rd_move rfl) ?_)
                refine gl_yes rfl rfl (op_rd rfl (rd_move rfl) ?_)
                refine gl_yes rfl rfl (op_rd rfl (rd_fieldAddr rfl (fa_51_4 _)) ?_)
                refine gl_yes rfl rfl (op_rd rfl (rd_load Try.underlying49 rfl rfl (by first | exact ld_blk 0 rfl rfl | exact ld_blk 1 rfl rfl | exact ld_blk 3 rfl rfl | exact ld_blk 6 rfl rfl | exact ld_old (by assumption) (by simp) | exact ld_cells (by assumption) (by simp) rfl)) ?_)
                refine gl_yes rfl rfl (op_rd rfl (rd_conv Try.runUnderlying49 Try.runUnderlying3 rfl (wrap_i64_nat (by omega))) ?_)
                refine gl_yes rfl rfl (op_rd rfl (by first | exact rd_remN (b := 300) rfl rfl (by omega) | exact rd_rem rfl rfl (by omega) (by omega)) ?_)
                refine gl_yes rfl rfl (op_rd rfl (rd_fieldAddr rfl (fa_51_5 _)) ?_)
                refine gl_yes rfl rfl (op_rd rfl (rd_load Try.underlying36 rfl rfl (by first | exact ld_blk 0 rfl rfl | exact ld_blk 1 rfl rfl | exact ld_blk 3 rfl rfl | exact ld_blk 6 rfl rfl | exact ld_old (by assumption) (by simp) | exact ld_cells (by assumption) (by simp) rfl)) ?_)
                refine gl_yes rfl rfl (op_callMT [_, _, _, _, _, _, _, _] T [3, 4, 5] [0, 1, 2, 6, 7] 8 rfl rfl rfl (vf := []) (vc := []) rfl rfl Try.call19 (by decide) (by decide) rfl (fun w how hc => Fuse_ok f hst.ok bf rb cb rp cp _ w hc ((after % 300 : Nat) : Int) ps pa pc (by omega) (slOutT (B := [_, _, _, _, _, _, _, _]) (T := T) how hpsl (by decide) [3, 4, 5]) hpl) ?_)
                rintro _ _ ⟨rpx, cpx, rfl, rfl⟩
                rw [fuse_is hst.dn (by omega) hp256]
                obtain ⟨f1, hf1⟩ : ∃ f1, ({ f with left := ((after % 300 : Nat) : Int), picks := ps } : Fl) = f1 := ⟨_, rfl⟩
                have y1 : f1.er = f.er := by rw [← hf1]
                have y2 : f1.pr = f.pr := by rw [← hf1]
                have y3 : f1.st = f.st := by rw [← hf1]
                have y4 : f1.b = f.b := by rw [← hf1]
                have y5 : f1.b.length = f.b.length := by rw [y4]
                rw [hf1] at hst1
                rw [show ({ f with left := ((after % 300 : Nat) : Int), picks := ps } : Fl) = f1 from hf1]
                rw [show f.b.length / 256 = f1.b.length / 256 by rw [y5]]
                have hcap1 := hst1.cap
                refine gl_yes rfl rfl (op_rd rfl (rd_neq rfl rfl) (gk_dec (fun h104 => ?_) (fun h104 => ?_)))
                · skip
                  exact absurd rfl h104
                · skip
                  refine gl_op (op_rd rfl (rd_pick_t rfl rfl) ?_)
                  refine gl_nil ?_
                  refine gx_then ?_
                  refine gc_cond_f rfl ?_
                  refine gc_skip ?_
                  refine gx_then ?_
                  refine gc_seq ?_
                  refine gc_region ?_
                  refine gl_op (op_rd rfl (rd_move rfl) ?_)
                  refine gl_op (op_callMT [_, _, _, _, _, _, _, _] T [0, 1, 2] [3, 4, 5, 6, 7] 8 rfl rfl rfl (vf := []) (vc := []) rfl rfl Try.call16 (by decide) (by decide) rfl (fun w how hc => Counts_ok f1 hst1.ok bf rb cb rpx cpx _ w hc) ?_)
                  rintro _ _ ⟨rfl, rfl⟩
                  refine gl_op (op_rd rfl (rd_move rfl) ?_)
                  refine gl_op (op_rd rfl (rd_extract rfl rfl) ?_)
                  refine gl_op (op_rd rfl (rd_extract rfl rfl) ?_)
                  refine gl_op (op_rd rfl (rd_assign rfl) ?_)
                  refine gl_op (op_rd rfl (rd_assign rfl) ?_)
                  refine gl_nil ?_
                  refine gx_then ?_
                  refine gc_seq ?_
                  by_cases hbad : 16 < v.length
                  · skip
                    refine gc_region ?_
                    refine gl_op (op_rd rfl (rd_move rfl) ?_)
                    refine gl_op (op_rd rfl (rd_move rfl) ?_)
                    refine gl_op (op_rd rfl (rd_fieldAddr rfl (fa_51_1 _)) ?_)
                    refine gl_op (op_rd rfl (rd_load Try.underlying36 rfl rfl (by first | exact ld_blk 0 rfl rfl | exact ld_blk 3 rfl rfl | exact ld_blk 4 rfl rfl | exact ld_blk 6 rfl rfl | exact ld_old (by assumption) (by simp) | exact ld_cells (by assumption) (by simp) rfl)) ?_)
                    refine gl_op (op_call rfl (vf := []) (vc := []) rfl rfl Try.call17 (fun w1 ho => Put_arg bs _ w1 (ho.blkCells 4 rfl) ((key : Nat) : Int) va v.length vc (.inr (.inr hbad))) ?_)
                    rintro _ _ ⟨rfl, rfl⟩
                    refine gl_op (op_rd rfl (rd_assign rfl) ?_)
                    refine gl_nil ?_
                    refine gx_then ?_
                    refine gc_seq ?_
                    refine gc_region ?_
                    refine gl_op (op_rd rfl (rd_move rfl) ?_)
                    refine gl_op (op_callMT [_, _, _, _, _, _, _, _] T [0, 1, 2] [3, 4, 5, 6, 7] 8 rfl rfl rfl (vf := []) (vc := []) rfl rfl Try.call16 (by decide) (by decide) rfl (fun w how hc => Counts_ok f1 hst1.ok bf rb cb rpx cpx _ w hc) ?_)
                    rintro _ _ ⟨rfl, rfl⟩
                    refine gl_op (op_rd rfl (rd_move rfl) ?_)
                    refine gl_op (op_rd rfl (rd_extract rfl rfl) ?_)
                    refine gl_op (op_rd rfl (rd_extract rfl rfl) ?_)
                    refine gl_op (op_rd rfl (rd_assign rfl) ?_)
                    refine gl_op (op_rd rfl (rd_assign rfl) ?_)
                    refine gl_nil ?_
                    refine gx_then ?_
                    refine gc_seq ?_
                    refine gc_seq ?_
                    refine gc_region ?_
                    refine gl_op (op_rd rfl (rd_move rfl) ?_)
                    refine gl_op (op_rd rfl (rd_move rfl) ?_)
                    refine gl_op (op_rd rfl (by first | exact rd_addN (b := 1) rfl rfl (by omega) | exact rd_add rfl rfl (by omega) (by omega)) ?_)
                    refine gl_op (op_rd rfl (rd_gtr rfl rfl) (gk_dec (fun h124 => ?_) (fun h124 => ?_)))
                    · skip
                      exfalso; omega
                    · skip
                      refine gl_op (op_rd rfl (rd_move rfl) ?_)
                      refine gl_yes rfl rfl (op_rd rfl (rd_move rfl) ?_)
                      refine gl_yes rfl rfl (op_rd rfl (rd_eql rfl rfl) (gk_dec (fun h127 => ?_) (fun h127 => ?_)))
                      · skip
                        exact absurd h127 (by decide)
                      · skip
                        refine gl_yes rfl rfl (op_rd rfl (rd_move rfl) ?_)
                        refine gl_yes rfl rfl (op_call rfl (vf := []) (vc := []) rfl rfl Try.call20 (fun w1 ho => DownS_q f1 hst1.ok bf rb cb rpx cpx w1 (ho.blkCells 0 rfl)) ?_)
                        rintro _ _ ⟨rfl, rfl⟩
                        rw [hst1.dn]
                        refine gl_yes rfl rfl (op_rd rfl (rd_neqb Try.runUnderlying4 rfl rfl) ?_)
                        refine gk_bool (fun h130 => ?_) (fun h130 => ?_)
                        · skip
                          simp at h130
                        · skip
                          refine gl_op (op_rd rfl (rd_pick_f rfl rfl) ?_)
                          refine gl_nil ?_
                          refine gx_then ?_
                          refine gc_cond_f rfl ?_
                          refine gc_skip ?_
                          refine gx_then ?_
                          refine gc_seq ?_
                          refine gc_seq ?_
                          refine gc_region ?_
                          refine gl_op (op_rd rfl (rd_move rfl) ?_)
                          refine gl_op (op_rd rfl (rd_neq rfl rfl) (gk_dec (fun h133 => ?_) (fun h133 => ?_)))
                          · skip
                            refine gl_nil ?_
                            refine gx_then ?_
                            refine gc_cond_t rfl ?_
                            refine gc_seq ?_
                            refine gc_seq ?_
                            refine gc_region ?_
                            refine gl_op (op_rd rfl (rd_move rfl) ?_)
                            refine gl_op (op_rd rfl (rd_move rfl) ?_)
                            refine gl_op (op_rd rfl (rd_move rfl) ?_)
                            refine gl_op (op_rd rfl (rd_fieldAddr rfl (fa_51_1 _)) ?_)
                            refine gl_op (op_rd rfl (rd_load Try.underlying36 rfl rfl (by first | exact ld_blk 0 rfl rfl | exact ld_blk 3 rfl rfl | exact ld_blk 4 rfl rfl | exact ld_blk 6 rfl rfl | exact ld_old (by assumption) (by simp) | exact ld_cells (by assumption) (by simp) rfl)) ?_)
                            refine gl_op (op_call rfl (vf := []) (vc := []) rfl rfl Try.call18 (fun w1 ho => rPut_arg br ((key : Nat) : Int) va v.length vc (.inr (.inr hbad)) w1) ?_)
                            rintro _ _ ⟨rfl, rfl⟩
                            refine gl_op (op_rd rfl (rd_neq rfl rfl) (gk_dec (fun h140 => ?_) (fun h140 => ?_)))
                            · skip
                              exact absurd rfl h140
                            · skip
                              refine gl_op (op_rd rfl (rd_move rfl) ?_)
                              refine gl_yes rfl rfl (op_rd rfl (rd_move rfl) ?_)
                              refine gl_yes rfl rfl (op_callMT [_, _, _, _, _, _, _, _] T [0, 1, 2] [3, 4, 5, 6, 7] 8 rfl rfl rfl (vf := []) (vc := []) rfl rfl Try.call21 (by decide) (by decide) rfl (fun w how hc => Restart_ok f1 hst1.ok bf rb cb rpx cpx _ w hc) ?_)
                              rintro _ _ ⟨rfl, rfl⟩
                              refine gl_yes rfl rfl (op_rd rfl (rd_neq rfl rfl) (gk_dec (fun h144 => ?_) (fun h144 => ?_)))
                              · skip
                                exact absurd rfl h144
                              · skip
                                refine gl_op (op_rd rfl (rd_pick_f rfl rfl) ?_)
                                refine gl_nil ?_
                                refine gx_then ?_
                                refine gc_cond_f rfl ?_
                                refine gc_skip ?_
                                refine gx_then ?_
                                refine gc_exit ?_
                                refine gx_then_exit ?_
                                refine gx_block_exit ?_
                                refine gx_then ?_
                                refine gc_region ?_
                                refine gl_op (op_rd rfl (rd_move rfl) ?_)
                                refine gl_op (op_rd rfl (by first | exact rd_addN (b := 1) rfl rfl (by omega) | exact rd_add rfl rfl (by omega) (by omega)) ?_)
                                refine gl_op (op_rd rfl (rd_assign rfl) ?_)
                                refine gl_nil ?_
                                refine gx_then ?_
                                have q1 : f1.er ≤ 4 * (j + 1) + 1 := by omega
                                have q2 : f1.pr ≤ 100000 * (j + 1) := by rw [Nat.mul_succ]; omega
                                have q3 : f1.st ≤ 2 * (j + 1) + 1 := by omega
                                have q4 : num ≤ j + 1 := by omega
                                have q5 : j + 1 ≤ l.length := by omega
                                have q6 : l.length - (j + 1) < l.length - j := by omega
                                have q7 : f1.b.length = 256 * n := by omega
                                exact gx_cut (⟨j + 1, none, 0, bs, bm, id, num, fb, (flRestart f1), m, nb, T, V, L, rL, cL⟩) ⟨⟨q5, hst1.restart, hrf, rfl, q7, q1, q2, q3, q4⟩, q6⟩ ⟨rfl, rfl, rfl, rfl, rfl, rfl, trivial⟩ (sub_tail (A := [_, _, _, _, _, _, _]) (B := [_, _, _, _, _, _, _, _]) (T := T) [4, 5, 0, 1, 2, 6, 7] 8 (by decide) (by decide) rfl rfl)
                          · skip
                            exact absurd (by decide) h133
                  · skip
                    refine gc_region ?_
                    refine gl_op (op_rd rfl (rd_move rfl) ?_)
                    refine gl_op (op_rd rfl (rd_move rfl) ?_)
                    refine gl_op (op_rd rfl (rd_fieldAddr rfl (fa_51_1 _)) ?_)
                    refine gl_op (op_rd rfl (rd_load Try.underlying36 rfl rfl (by first | exact ld_blk 0 rfl rfl | exact ld_blk 3 rfl rfl | exact ld_blk 4 rfl rfl | exact ld_blk 6 rfl rfl | exact ld_old (by assumption) (by simp) | exact ld_cells (by assumption) (by simp) rfl)) ?_)
                    refine gl_op (op_callMW [_, _, _, _, _, _, _, _] T [4, 5, 0, 1, 2] [3, 6, 7] 8 rfl rfl rfl (vf := []) (vc := []) rfl rfl Try.call17 (by decide) (by decide) rfl (fun w how hc => PutG_ok f1 bs bf rb cb rpx cpx id bm num fb m nb T V hst1 _ w hc (by omega) (by omega) (by omega) key (by omega) v hvv (by omega) va vc (slOutW (B := [_, _, _, _, _, _, _, _]) (T := T) how hvsl (by decide) [4, 5, 0, 1, 2])) ?_)
                    rintro _ _ (⟨hfull, rfl, rfl⟩ | ⟨hnf, f2, m2, nb2, fb2, T2, rfl, hPF, hst2, hTT, rfl⟩ | ⟨hnf, f2, m2, nb2, fb2, num2, id2, T2, rfl, hPF, hPT, hTT, rfl⟩)
                    · skip
                      refine gk_mid [_, _, _, _, _] T [_, _, _] ?_
                      refine gl_op (op_rd rfl (rd_assign rfl) ?_)
                      refine gl_nil ?_
                      refine gx_then ?_
                      refine gc_seq ?_
                      refine gc_region ?_
                      refine gl_op (op_rd rfl (rd_move rfl) ?_)
                      refine gl_op (op_callMT [_, _, _, _, _, _, _, _] T [2, 3, 4] [0, 1, 5, 6, 7] 8 rfl rfl rfl (vf := []) (vc := []) rfl rfl Try.call16 (by decide) (by decide) rfl (fun w how hc => Counts_ok f1 hst1.ok bf rb cb rpx cpx _ w hc) ?_)
                      rintro _ _ ⟨rfl, rfl⟩
                      refine gl_op (op_rd rfl (rd_move rfl) ?_)
                      refine gl_op (op_rd rfl (rd_extract rfl rfl) ?_)
                      refine gl_op (op_rd rfl (rd_extract rfl rfl) ?_)
                      refine gl_op (op_rd rfl (rd_assign rfl) ?_)
                      refine gl_op (op_rd rfl (rd_assign rfl) ?_)
                      refine gl_nil ?_
                      refine gx_then ?_
                      refine gc_seq ?_
                      refine gc_seq ?_
                      refine gc_region ?_
                      refine gl_op (op_rd rfl (rd_move rfl) ?_)
                      refine gl_op (op_rd rfl (rd_move rfl) ?_)
                      refine gl_op (op_rd rfl (by first | exact rd_addN (b := 1) rfl rfl (by omega) | exact rd_add rfl rfl (by omega) (by omega)) ?_)
                      refine gl_op (op_rd rfl (rd_gtr rfl rfl) (gk_dec (fun h124 => ?_) (fun h124 => ?_)))
                      · skip
                        exfalso; omega
                      · skip
                        refine gl_op (op_rd rfl (rd_move rfl) ?_)
                        refine gl_yes rfl rfl (op_rd rfl (rd_move rfl) ?_)
                        refine gl_yes rfl rfl (op_rd rfl (rd_eql rfl rfl) (gk_dec (fun h127 => ?_) (fun h127 => ?_)))
                        · skip
                          exact absurd h127 (by decide)
                        · skip
                          refine gl_yes rfl rfl (op_rd rfl (rd_move rfl) ?_)
                          refine gl_yes rfl rfl (op_call rfl (vf := []) (vc := []) rfl rfl Try.call20 (fun w1 ho => DownS_q f1 hst1.ok bf rb cb rpx cpx w1 (ho.blkCells 0 rfl)) ?_)
                          rintro _ _ ⟨rfl, rfl⟩
                          rw [hst1.dn]
                          refine gl_yes rfl rfl (op_rd rfl (rd_neqb Try.runUnderlying4 rfl rfl) ?_)
                          refine gk_bool (fun h130 => ?_) (fun h130 => ?_)
                          · skip
                            simp at h130
                          · skip
                            refine gl_op (op_rd rfl (rd_pick_f rfl rfl) ?_)
                            refine gl_nil ?_
                            refine gx_then ?_
                            refine gc_cond_f rfl ?_
                            refine gc_skip ?_
                            refine gx_then ?_
                            refine gc_seq ?_
                            refine gc_seq ?_
                            refine gc_region ?_
                            refine gl_op (op_rd rfl (rd_move rfl) ?_)
                            refine gl_op (op_rd rfl (rd_neq rfl rfl) (gk_dec (fun h133 => ?_) (fun h133 => ?_)))
                            · skip
                              refine gl_nil ?_
                              refine gx_then ?_
                              refine gc_cond_t rfl ?_
                              refine gc_seq ?_
                              refine gc_seq ?_
                              refine gc_region ?_
                              refine gl_op (op_rd rfl (rd_move rfl) ?_)
                              refine gl_op (op_rd rfl (rd_move rfl) ?_)
                              refine gl_op (op_rd rfl (rd_move rfl) ?_)
                              refine gl_op (op_rd rfl (rd_fieldAddr rfl (fa_51_1 _)) ?_)
                              refine gl_op (op_rd rfl (rd_load Try.underlying36 rfl rfl (by first | exact ld_blk 0 rfl rfl | exact ld_blk 3 rfl rfl | exact ld_blk 5 rfl rfl | exact ld_blk 6 rfl rfl | exact ld_old (by assumption) (by simp) | exact ld_cells (by assumption) (by simp) rfl)) ?_)
                              refine gl_op (op_callMT [_, _, _, _, _, _, _, _] T [6, 7] [0, 1, 2, 3, 4, 5] 8 rfl rfl rfl (vf := []) (vc := []) rfl rfl Try.call18 (by decide) (by decide) rfl (fun w how hc => rPut_full L br (f1.b.length / 256) rL cL hLb _ w hc (by omega) (by omega) key v va vc (slOutT (B := [_, _, _, _, _, _, _, _]) (T := T) how hvsl (by decide) [6, 7]) hvl (rput_full hrf (by omega) (by omega) (by rw [← hsk.2]; exact hfull))) ?_)
                              rintro _ _ ⟨rfl, rfl⟩
                              refine gl_op (op_rd rfl (rd_neq rfl rfl) (gk_dec (fun h140 => ?_) (fun h140 => ?_)))
                              · skip
                                exact absurd rfl h140
                              · skip
                                refine gl_op (op_rd rfl (rd_move rfl) ?_)
                                refine gl_yes rfl rfl (op_rd rfl (rd_move rfl) ?_)
                                refine gl_yes rfl rfl (op_callMT [_, _, _, _, _, _, _, _] T [2, 3, 4] [0, 1, 5, 6, 7] 8 rfl rfl rfl (vf := []) (vc := []) rfl rfl Try.call21 (by decide) (by decide) rfl (fun w how hc => Restart_ok f1 hst1.ok bf rb cb rpx cpx _ w hc) ?_)
                                rintro _ _ ⟨rfl, rfl⟩
                                refine gl_yes rfl rfl (op_rd rfl (rd_neq rfl rfl) (gk_dec (fun h144 => ?_) (fun h144 => ?_)))
                                · skip
                                  exact absurd rfl h144
                                · skip
                                  refine gl_op (op_rd rfl (rd_pick_f rfl rfl) ?_)
                                  refine gl_nil ?_
                                  refine gx_then ?_
                                  refine gc_cond_f rfl ?_
                                  refine gc_skip ?_
                                  refine gx_then ?_
                                  refine gc_exit ?_
                                  refine gx_then_exit ?_
                                  refine gx_block_exit ?_
                                  refine gx_then ?_
                                  refine gc_region ?_
                                  refine gl_op (op_rd rfl (rd_move rfl) ?_)
                                  refine gl_op (op_rd rfl (by first | exact rd_addN (b := 1) rfl rfl (by omega) | exact rd_add rfl rfl (by omega) (by omega)) ?_)
                                  refine gl_op (op_rd rfl (rd_assign rfl) ?_)
                                  refine gl_nil ?_
                                  refine gx_then ?_
                                  have q1 : f1.er ≤ 4 * (j + 1) + 1 := by omega
                                  have q2 : f1.pr ≤ 100000 * (j + 1) := by rw [Nat.mul_succ]; omega
                                  have q3 : f1.st ≤ 2 * (j + 1) + 1 := by omega
                                  have q4 : num ≤ j + 1 := by omega
                                  have q5 : j + 1 ≤ l.length := by omega
                                  have q6 : l.length - (j + 1) < l.length - j := by omega
                                  have q7 : f1.b.length = 256 * n := by omega
                                  exact gx_cut (⟨j + 1, none, 0, bs, bm, id, num, fb, (flRestart f1), m, nb, T, V, L, rL, cL⟩) ⟨⟨q5, hst1.restart, hrf, rfl, q7, q1, q2, q3, q4⟩, q6⟩ ⟨rfl, rfl, rfl, rfl, rfl, rfl, trivial⟩ (sub_tail (A := [_, _, _, _, _, _, _]) (B := [_, _, _, _, _, _, _, _]) (T := T) [5, 6, 0, 1, 2, 3, 4] 8 (by decide) (by decide) rfl rfl)
                            · skip
                              exact absurd (by decide) h133
                    · skip
                      refine gk_mid [_, _, _, _, _] T2 [_, _, _] ?_
                      have hF1 := hPF.er
                      have hF2 := hPF.pr
                      have hF3 := hPF.st
                      have hF4 := hPF.len
                      rw [show f1.b.length / 256 = f2.b.length / 256 by rw [hF4]]
                      refine gl_op (op_rd rfl (rd_assign rfl) ?_)
                      refine gl_nil ?_
                      refine gx_then ?_
                      refine gc_seq ?_
                      refine gc_region ?_
                      refine gl_op (op_rd rfl (rd_move rfl) ?_)
                      refine gl_op (op_callMT [_, _, _, _, _, _, _, _] T2 [2, 3, 4] [0, 1, 5, 6, 7] 8 rfl rfl rfl (vf := []) (vc := []) rfl rfl Try.call16 (by decide) (by decide) rfl (fun w how hc => Counts_ok f2 hPF.ok bf rb cb rpx cpx _ w hc) ?_)
                      rintro _ _ ⟨rfl, rfl⟩
                      refine gl_op (op_rd rfl (rd_move rfl) ?_)
                      refine gl_op (op_rd rfl (rd_extract rfl rfl) ?_)
                      refine gl_op (op_rd rfl (rd_extract rfl rfl) ?_)
                      refine gl_op (op_rd rfl (rd_assign rfl) ?_)
                      refine gl_op (op_rd rfl (rd_assign rfl) ?_)
                      refine gl_nil ?_
                      refine gx_then ?_
                      refine gc_seq ?_
                      refine gc_seq ?_
                      refine gc_region ?_
                      refine gl_op (op_rd rfl (rd_move rfl) ?_)
                      refine gl_op (op_rd rfl (rd_move rfl) ?_)
                      refine gl_op (op_rd rfl (by first | exact rd_addN (b := 1) rfl rfl (by omega) | exact rd_add rfl rfl (by omega) (by omega)) ?_)
                      refine gl_op (op_rd rfl (rd_gtr rfl rfl) (gk_dec (fun h124 => ?_) (fun h124 => ?_)))
                      · skip
                        exfalso; omega
                      · skip
                        refine gl_op (op_rd rfl (rd_move rfl) ?_)
                        refine gl_yes rfl rfl (op_rd rfl (rd_move rfl) ?_)
                        refine gl_yes rfl rfl (op_rd rfl (rd_eql rfl rfl) (gk_dec (fun h127 => ?_) (fun h127 => ?_)))
                        · skip
                          exact absurd h127 (by decide)
                        · skip
                          refine gl_yes rfl rfl (op_rd rfl (rd_move rfl) ?_)
                          refine gl_yes rfl rfl (op_call rfl (vf := []) (vc := []) rfl rfl Try.call20 (fun w1 ho => DownS_q f2 hPF.ok bf rb cb rpx cpx w1 (ho.blkCells 0 rfl)) ?_)
                          rintro _ _ ⟨rfl, rfl⟩
                          rw [hst2.dn]
                          refine gl_yes rfl rfl (op_rd rfl (rd_neqb Try.runUnderlying4 rfl rfl) ?_)
                          refine gk_bool (fun h130 => ?_) (fun h130 => ?_)
                          · skip
                            simp at h130
                          · skip
                            refine gl_op (op_rd rfl (rd_pick_f rfl rfl) ?_)
                            refine gl_nil ?_
                            refine gx_then ?_
                            refine gc_cond_f rfl ?_
                            refine gc_skip ?_
                            refine gx_then ?_
                            refine gc_seq ?_
                            refine gc_seq ?_
                            refine gc_region ?_
                            refine gl_op (op_rd rfl (rd_move rfl) ?_)
                            refine gl_op (op_rd rfl (rd_neq rfl rfl) (gk_dec (fun h133 => ?_) (fun h133 => ?_)))
                            · skip
                              refine gl_nil ?_
                              refine gx_then ?_
                              refine gc_cond_t rfl ?_
                              refine gc_seq ?_
                              refine gc_seq ?_
                              refine gc_region ?_
                              refine gl_op (op_rd rfl (rd_move rfl) ?_)
                              refine gl_op (op_rd rfl (rd_move rfl) ?_)
                              refine gl_op (op_rd rfl (rd_move rfl) ?_)
                              refine gl_op (op_rd rfl (rd_fieldAddr rfl (fa_51_1 _)) ?_)
                              refine gl_op (op_rd rfl (rd_load Try.underlying36 rfl rfl (by first | exact ld_blk 0 rfl rfl | exact ld_blk 3 rfl rfl | exact ld_blk 5 rfl rfl | exact ld_blk 6 rfl rfl | exact ld_old (by assumption) (by simp) | exact ld_cells (by assumption) (by simp) rfl)) ?_)
                              refine gl_op (op_callMT [_, _, _, _, _, _, _, _] T2 [6, 7] [0, 1, 2, 3, 4, 5] 8 rfl rfl rfl (vf := []) (vc := []) rfl rfl Try.call18 (by decide) (by decide) rfl (fun w how hc => rPut_go L br (f2.b.length / 256) rL cL hLb _ w hc (by omega) (by omega) key v va vc (slOutT (B := [_, _, _, _, _, _, _, _]) (T := T2) how hvsl (by decide) [6, 7]) hvl (rput_go hrf (by omega) (by omega) (by rw [hF4, ← hsk.2]; exact hnf))) ?_)
                              rintro _ _ ⟨rw, cw, rL2, cL2, L2, rfl, hins, rfl⟩
                              refine gl_op (op_rd rfl (rd_neq rfl rfl) (gk_dec (fun h140 => ?_) (fun h140 => ?_)))
                              · skip
                                exact absurd rfl h140
                              · skip
                                refine gl_op (op_rd rfl (rd_move rfl) ?_)
                                refine gl_yes rfl rfl (op_rd rfl (rd_move rfl) ?_)
                                refine gl_yes rfl rfl (op_callMT [_, _, _, _, _, _, _, _, _] T2 [3, 4, 5] [0, 1, 2, 6, 7, 8] 9 rfl rfl rfl (vf := []) (vc := []) rfl rfl Try.call21 (by decide) (by decide) rfl (fun w how hc => Restart_ok f2 hPF.ok bf rb cb rpx cpx _ w hc) ?_)
                                rintro _ _ ⟨rfl, rfl⟩
                                refine gl_yes rfl rfl (op_rd rfl (rd_neq rfl rfl) (gk_dec (fun h144 => ?_) (fun h144 => ?_)))
                                · skip
                                  exact absurd rfl h144
                                · skip
                                  refine gl_op (op_rd rfl (rd_pick_f rfl rfl) ?_)
                                  refine gl_nil ?_
                                  refine gx_then ?_
                                  refine gc_cond_f rfl ?_
                                  refine gc_skip ?_
                                  refine gx_then ?_
                                  refine gc_exit ?_
                                  refine gx_then_exit ?_
                                  refine gx_block_exit ?_
                                  refine gx_then ?_
                                  refine gc_region ?_
                                  refine gl_op (op_rd rfl (rd_move rfl) ?_)
                                  refine gl_op (op_rd rfl (by first | exact rd_addN (b := 1) rfl rfl (by omega) | exact rd_add rfl rfl (by omega) (by omega)) ?_)
                                  refine gl_op (op_rd rfl (rd_assign rfl) ?_)
                                  refine gl_nil ?_
                                  refine gx_then ?_
                                  have q1 : f2.er ≤ 4 * (j + 1) + 1 := by omega
                                  have q2 : f2.pr ≤ 100000 * (j + 1) := by rw [Nat.mul_succ]; omega
                                  have q3 : f2.st ≤ 2 * (j + 1) + 1 := by omega
                                  have q4 : (num + 1) ≤ j + 1 := by omega
                                  have q5 : j + 1 ≤ l.length := by omega
                                  have q6 : l.length - (j + 1) < l.length - j := by omega
                                  have q7 : f2.b.length = 256 * n := by omega
                                  exact gx_cut (⟨j + 1, none, 0, bs, bm, id, num + 1, fb2, (flRestart f2), m2, nb2, (HL.row 5 1 rw v.length cw (v.map u8V) :: T2), (updV V key (num + 1) v), L2, rL2, cL2⟩) ⟨⟨q5, hst2.restart.mono (fun y hy => List.mem_cons_of_mem _ hy), rs_put (x := ⟨key, v, rw, cw⟩) hrf hins rfl (by omega) (by simp only; omega) hvv (fun y hy => List.mem_cons_of_mem _ (hTT y hy)) List.mem_cons_self, rfl, q7, q1, q2, q3, q4⟩, q6⟩ ⟨rfl, rfl, rfl, rfl, rfl, rfl, trivial⟩ (sub_tail (A := [_, _, _, _, _, _, _, _]) (B := [_, _, _, _, _, _, _, _, _]) (T := T2) [6, 7, 0, 1, 2, 3, 4, 5] 9 (by decide) (by decide) rfl rfl)
                            · skip
                              exact absurd (by decide) h133
                    · skip
                      refine gk_mid [_, _, _, _, _] T2 [_, _, _] ?_
                      have hF1 := hPF.er
                      have hF2 := hPF.pr
                      have hF3 := hPF.st
                      have hF4 := hPF.len
                      rw [show f1.b.length / 256 = f2.b.length / 256 by rw [hF4]]
                      obtain ⟨V2, hrel, hfi2⟩ := hPT.fi
                      have hdn2 := hPT.dn
                      refine gl_op (op_rd rfl (rd_assign rfl) ?_)
                      refine gl_nil ?_
                      refine gx_then ?_
                      refine gc_seq ?_
                      refine gc_region ?_
                      refine gl_op (op_rd rfl (rd_move rfl) ?_)
                      refine gl_op (op_callMT [_, _, _, _, _, _, _, _] T2 [2, 3, 4] [0, 1, 5, 6, 7] 8 rfl rfl rfl (vf := []) (vc := []) rfl rfl Try.call16 (by decide) (by decide) rfl (fun w how hc => Counts_ok f2 hPF.ok bf rb cb rpx cpx _ w hc) ?_)
                      rintro _ _ ⟨rfl, rfl⟩
                      refine gl_op (op_rd rfl (rd_move rfl) ?_)
                      refine gl_op (op_rd rfl (rd_extract rfl rfl) ?_)
                      refine gl_op (op_rd rfl (rd_extract rfl rfl) ?_)
                      refine gl_op (op_rd rfl (rd_assign rfl) ?_)
                      refine gl_op (op_rd rfl (rd_assign rfl) ?_)
                      refine gl_nil ?_
                      refine gx_then ?_
                      refine gc_seq ?_
                      refine gc_seq ?_
                      refine gc_region ?_
                      refine gl_op (op_rd rfl (rd_move rfl) ?_)
                      refine gl_op (op_rd rfl (rd_move rfl) ?_)
                      refine gl_op (op_rd rfl (by first | exact rd_addN (b := 1) rfl rfl (by omega) | exact rd_add rfl rfl (by omega) (by omega)) ?_)
                      refine gl_op (op_rd rfl (rd_gtr rfl rfl) (gk_dec (fun h124 => ?_) (fun h124 => ?_)))
                      · skip
                        exfalso; omega
                      · skip
                        refine gl_op (op_rd rfl (rd_move rfl) ?_)
                        refine gl_yes rfl rfl (op_rd rfl (rd_move rfl) ?_)
                        refine gl_yes rfl rfl (op_rd rfl (rd_eql rfl rfl) (gk_dec (fun h127 => ?_) (fun h127 => ?_)))
                        · skip
                          refine gl_yes rfl rfl (op_rd rfl (rd_move rfl) ?_)
                          refine gl_yes rfl rfl (op_call rfl (vf := []) (vc := []) rfl rfl Try.call20 (fun w1 ho => DownS_q f2 hPF.ok bf rb cb rpx cpx w1 (ho.blkCells 0 rfl)) ?_)
                          rintro _ _ ⟨rfl, rfl⟩
                          rw [hdn2]
                          refine gl_yes rfl rfl (op_rd rfl (rd_neqb Try.runUnderlying4 rfl rfl) ?_)
                          refine gk_bool (fun h130 => ?_) (fun h130 => ?_)
                          · skip
                            simp at h130
                          · skip
                            refine gl_op (op_rd rfl (rd_pick_f rfl rfl) ?_)
                            refine gl_nil ?_
                            refine gx_then ?_
                            refine gc_cond_f rfl ?_
                            refine gc_skip ?_
                            refine gx_then ?_
                            refine gc_seq ?_
                            refine gc_seq ?_
                            refine gc_region ?_
                            refine gl_op (op_rd rfl (rd_move rfl) ?_)
                            refine gl_op (op_rd rfl (rd_neq rfl rfl) (gk_dec (fun h133 => ?_) (fun h133 => ?_)))
                            · skip
                              exact absurd rfl h133
                            · skip
                              refine gl_nil ?_
                              refine gx_then ?_
                              refine gc_cond_f rfl ?_
                              refine gc_skip ?_
                              refine gx_then ?_
                              refine gc_seq ?_
                              refine gc_region ?_
                              refine gl_op (op_rd rfl (rd_move rfl) ?_)
                              refine gl_op (op_rd rfl (rd_loadAgg Try.underlying51 rfl ty_51 rfl (by first | exact cs_blk 0 (off := 0) (k := 6) rfl rfl | exact cs_blk 3 (off := 0) (k := 6) rfl rfl | exact cs_blk 5 (off := 0) (k := 6) rfl rfl | exact cs_blk 6 (off := 0) (k := 6) rfl rfl | exact cs_old (by assumption) (by simp)) rfl) ?_)
                              have hcapV : CapV V2 (10 * (f1.b.length / 256 - 2)) := by
                                rcases hrel with rfl | rfl
                                · exact hst1.capV
                                · exact capV_upd hst1 hnf hst1.cap
                              refine gl_op (op_callMT [_, _, _, _, _, _, _, _] T2 [0, 1, 2] [3, 4, 5, 6, 7] 8 rfl rfl rfl (vf := []) (vc := []) rfl rfl Try.call22 (by decide) (by decide) rfl (fun w how hc => opened_ok f2 hPF.ok bf rb cb rpx cpx _ w hc (num + 1) V2 hfi2 (by rw [hF4]; exact hPT.sp) (by rw [hF4]; exact hcapV) (by omega) (by omega) ⟨kk, va, vc, v, lose, again, after, pa, pc, ps⟩ ⟨hkk, haf, hvv, hpv, (slOutT (B := [_, _, _, _, _, _, _, _]) (T := T2) how hvsl (by decide) [0, 1, 2]), (slOutT (B := [_, _, _, _, _, _, _, _]) (T := T2) how hpsl (by decide) [0, 1, 2]), hvl, hpl⟩ hp256) ?_)
                              rintro _ _ ⟨bs3, rp3, cp3, bm3, f3, m3, nb3, T3, num3, fb3, id3, rfl, hO, rfl⟩
                              refine gk_mid2 [_, _, _, _, _] T3 [_, _, _, _, _] T2 ?_
                              have hst3 : StOk f3 id3 m3 nb3 (T2 ++ T3) num3 fb3 V2 := hO.st.mono (fun y hy => List.mem_append_right _ hy)
                              have hrf3 : RfOk L (T2 ++ T3) V := hrf.mono (fun y hy => List.mem_append_left _ (hTT y hy))
                              have o1 := hO.er
                              have o2 := hO.pr
                              have o3 := hO.hst
                              have o4 := hO.num
                              have o5 := hO.len
                              rw [show f2.b.length / 256 = f3.b.length / 256 by rw [o5]]
                              have hcap3 := hst3.cap
                              refine gl_op (op_rd rfl (rd_assign rfl) ?_)
                              refine gl_nil ?_
                              refine gx_then ?_
                              refine gc_seq ?_
                              refine gc_seq ?_
                              refine gc_region ?_
                              refine gl_op (op_rd rfl (rd_move rfl) ?_)
                              refine gl_op (op_rd rfl (rd_eqlNilPt eg_29 Try.underlying29 rfl rfl) ?_)
                              refine gl_op (op_rd rfl (rd_move rfl) ?_)
                              refine gl_yes rfl rfl (op_rd rfl (rd_move rfl) ?_)
                              refine gl_yes rfl rfl (op_rd rfl (rd_move rfl) ?_)
                              refine gl_yes rfl rfl (op_rd rfl (rd_move rfl) ?_)
                              refine gl_yes rfl rfl (op_rd rfl (rd_fieldAddr rfl (fa_51_1 _)) ?_)
                              refine gl_yes rfl rfl (op_rd rfl (rd_load Try.underlying36 rfl rfl (by first | exact ld_blk 0 rfl rfl | exact ld_blk 2 rfl rfl | exact ld_blk 5 rfl rfl | exact ld_blk 7 rfl rfl | exact ld_blk 8 rfl rfl | exact ld_old (by assumption) (by simp) | exact ld_cells (by assumption) (by simp) rfl)) ?_)
                              refine gl_yes rfl rfl (op_callMW [_, _, _, _, _, _, _, _, _, _] (T2 ++ T3) [0, 1, 2, 3, 4, 8, 9] [5, 6, 7] 10 rfl rfl rfl (vf := []) (vc := []) rfl rfl Try.call23 (by decide) (by decide) rfl (fun w how hc => holds_ok f3 bs3 bf rb cb rp3 cp3 id3 bm3 num3 fb3 m3 nb3 (T2 ++ T3) V V2 hst3 L br rL cL hrf3 key (num + 1) (by omega) v hrel _ w hc va vc (slOutW (B := [_, _, _, _, _, _, _, _, _, _]) (T := (T2 ++ T3)) how hvsl (by decide) [0, 1, 2, 3, 4, 8, 9])) ?_)
                              rintro _ _ ⟨rfl, rfl⟩
                              refine gk_mid [_, _, _, _, _, _, _] (T2 ++ T3) [_, _, _] ?_
                              refine gl_yes rfl rfl (op_rd rfl (rd_not rfl) ?_)
                              refine gl_op (op_rd rfl (rd_pick_f rfl rfl) ?_)
                              refine gl_nil ?_
                              refine gx_then ?_
                              refine gc_cond_f rfl ?_
                              refine gc_skip ?_
                              refine gx_then ?_
                              refine gc_seq ?_
                              refine gc_region ?_
                              refine gl_op (op_rd rfl (rd_move rfl) ?_)
                              refine gl_op (op_rd rfl (rd_move rfl) ?_)
                              refine gl_op (op_callMW [_, _, _, _, _, _, _, _, _, _] (T2 ++ T3) [0, 1, 2, 3, 4] [5, 6, 7, 8, 9] 10 rfl rfl rfl (vf := []) (vc := []) rfl rfl Try.call12 (by decide) (by decide) rfl (fun w how hc => GetM_ok f3 bs3 bf rb cb rp3 cp3 id3 bm3 num3 fb3 m3 nb3 (T2 ++ T3) V2 hst3 _ w hc ((key : Nat) : Int)) ?_)
                              rintro _ _ ⟨rg, cg, rfl, rfl⟩
                              refine gk_mid [_, _, _, _, _, _] (T2 ++ T3) [_, _, _, _, _] ?_
                              refine gl_op (op_rd rfl (rd_move rfl) ?_)
                              refine gl_op (op_rd rfl (rd_extract rfl rfl) ?_)
                              refine gl_op (op_rd rfl (rd_extract rfl rfl) ?_)
                              refine gl_op (op_rd rfl (rd_assign rfl) ?_)
                              refine gl_op (op_rd rfl (rd_assign rfl) ?_)
                              refine gl_nil ?_
                              refine gx_then ?_
                              refine gc_seq ?_
                              refine gc_region ?_
                              refine gl_op (op_rd rfl (rd_move rfl) ?_)
                              refine gl_op (op_callMT [_, _, _, _, _, _, _, _, _, _, _] (T2 ++ T3) [1, 2, 3, 4, 5] [0, 6, 7, 8, 9, 10] 11 rfl rfl rfl (vf := []) (vc := []) rfl rfl Try.call24 (by decide) (by decide) rfl (fun w how hc => Keys_ok f3 bs3 bf rb cb rp3 cp3 id3 bm3 num3 fb3 m3 nb3 (T2 ++ T3) V2 hst3 _ w hc) ?_)
                              rintro _ _ ⟨rk, ck, rfl, rfl⟩
                              have hlk := keysP_len (plain m3)
                              have hpm3 : (plain m3).length = m3.length := by simp [plain]
                              obtain ⟨ks, hks⟩ : ∃ ks, keysP (plain m3) = ks := ⟨_, rfl⟩
                              have hkiff : key ∈ ks ↔ (V2 key).isSome = true := by rw [← hks]; exact keysP_iff hst3 key
                              rw [hks]
                              rw [hks] at hlk
                              refine gl_op (op_rd rfl (rd_move rfl) ?_)
                              refine gl_op (op_rd rfl (rd_extract rfl rfl) ?_)
                              refine gl_op (op_rd rfl (rd_extract rfl rfl) ?_)
                              refine gl_op (op_rd rfl (rd_assign rfl) ?_)
                              refine gl_op (op_rd rfl (rd_assign rfl) ?_)
                              refine gl_nil ?_
                              refine gx_then ?_
                              refine gc_seq ?_
                              refine gc_seq ?_
                              refine gc_region ?_
                              refine gl_op (op_rd rfl (rd_assign rfl) ?_)
                              refine gl_nil ?_
                              refine gx_then ?_
                              refine gc_block ?_
                              refine gc_loopF (ι := AgS) [(1, _), (6, _), (7, _), (9, _), (11, _), (12, _), (14, _), (20, _), (22, _)] [_, _, _, _, _, _, _, _, _, _] (fun s => s.k ≤ ks.length ∧ RfOk s.L s.T s.W ∧ (s.W = V ∨ s.W = V2) ∧ (key ∈ ks.take s.k → s.W = V2) ∧ ∀ y ∈ T2 ++ T3, y ∈ s.T) (fun s Fr0 => ((24, natV s.k) :: Fr0)) (fun s Fr0 => (.blk br (RsC (f3.b.length / 256) s.rL s.cL s.L) 35 :: .row 99 2 s.rL s.L.length s.cL (s.L.flatMap Rv.cells) :: (Fr0 ++ s.T))) (fun s => ks.length - s.k) ⟨0, V, L, rL, cL, T2 ++ T3⟩ (⟨Nat.zero_le _, hrf3, .inl rfl, fun h => by simp at h, fun _ h => h⟩) ⟨rfl, rfl, rfl, rfl, rfl, rfl, rfl, rfl, rfl, rfl, trivial⟩ (sub_tail (A := [_, _, _, _, _, _, _, _, _, _, _, _]) (B := [_, _, _, _, _, _, _, _, _, _, _, _]) (T := (T2 ++ T3)) [7, 8, 0, 1, 2, 3, 4, 5, 6, 9, 10, 11] 12 (by decide) (by decide) rfl rfl) ?_
                              rintro ⟨k, W, L4, rL4, cL4, T4⟩ ⟨hk, hrf4, hW, hWk, hT4⟩
                              simp only at hk hrf4 hW hWk hT4 ⊢
                              refine gc_seq ?_
                              refine gc_seq ?_
                              refine gc_region ?_
                              refine gl_op (op_rd rfl (rd_move rfl) ?_)
                              refine gl_op (op_rd rfl (rd_move rfl) ?_)
                              refine gl_op (op_rd rfl (rd_lenSlice Try.underlying55 rfl) ?_)
                              refine gl_op (op_rd rfl (rd_lss rfl rfl) (gk_dec (fun h174 => ?_) (fun h174 => ?_)))
                              · skip
                                obtain ⟨k0, hki⟩ := get_some (show k < ks.length by omega)
                                refine gl_nil ?_
                                refine gx_then ?_
                                refine gc_cond_t rfl ?_
                                refine gc_skip ?_
                                refine gx_then ?_
                                refine gc_seq ?_
                                refine gc_block ?_
                                refine gc_seq ?_
                                refine gc_region ?_
                                refine gl_op (op_rd rfl (rd_move rfl) ?_)
                                refine gl_op (op_rd rfl (rd_move rfl) ?_)
                                refine gl_op (op_rd rfl (rd_indexRow1 7 rfl Try.underlying55 ty_3 rfl rfl (by omega) (by omega)) ?_)
                                refine gl_op (op_rd rfl (rd_load Try.underlying3 rfl rfl (ld_rowN 7 rfl (get_natsL hki))) ?_)
                                refine gl_op (op_rd rfl (rd_move rfl) ?_)
                                refine gl_op (op_rd rfl (rd_eql rfl rfl) (gk_dec (fun h182 => ?_) (fun h182 => ?_)))
                                · skip
                                  obtain rfl : k0 = key := by omega
                                  obtain ⟨⟨m4, now⟩, hv2⟩ := Option.isSome_iff_exists.1 (hkiff.1 (List.mem_of_getElem? hki))
                                  have hnow : (sgetP ((k0 : Nat) : Int) V2).1 = now := by rw [sget_val (by omega), hv2]; rfl
                                  obtain ⟨_, hn16, hn256⟩ := hst3.vals hv2
                                  have hfw := fullW (c := 10 * (f3.b.length / 256 - 2)) hst1 hrf4 hW (by rw [hv2]; rfl) (by rw [o5, hF4]; exact hnf)
                                  have hnl : (sgetP ((k0 : Nat) : Int) V2).1.length ≤ 16 := by rw [hnow]; exact hn16
                                  have hn256b : ∀ z ∈ (sgetP ((k0 : Nat) : Int) V2).1, z < 256 := by rw [hnow]; exact hn256
                                  have hLb4 : L4.length ≤ 100000 := by
                                    rcases hW with e | e
                                    · rw [e] at hrf4; have := (same_keys hst1 hrf4).2; omega
                                    · rw [e] at hrf4; have := (same_keys hst3 hrf4).2; omega
                                  refine gl_nil ?_
                                  refine gx_then ?_
                                  refine gc_cond_t rfl ?_
                                  refine gc_region ?_
                                  refine gl_op (op_rd rfl (rd_move rfl) ?_)
                                  refine gl_op (op_rd rfl (rd_move rfl) ?_)
                                  refine gl_op (op_rd rfl (rd_move rfl) ?_)
                                  refine gl_op (op_callMT [_, _, _, _, _, _, _, _, _, _, _, _] T4 [0, 1] [2, 3, 4, 5, 6, 7, 8, 9, 10, 11] 12 rfl rfl rfl (vf := []) (vc := []) rfl rfl Try.call18 (by decide) (by decide) rfl (fun w how hc => rPut_go L4 br (f3.b.length / 256) rL4 cL4 (by omega) _ w hc (by omega) (by omega) k0 (sgetP ((k0 : Nat) : Int) V2).1 (rowA rg) cg (rowOut how 8 [0, 1] rfl (by decide)) (by omega) (rput_go hrf4 (by omega) (by omega) hfw)) ?_)
                                  rintro _ _ ⟨rw, cw, rL5, cL5, L5, rfl, hins, rfl⟩
                                  have hrf5 := rs_put (num := m4) (x := ⟨k0, (sgetP ((k0 : Nat) : Int) V2).1, rw, cw⟩) hrf4 hins rfl (by omega) hnl hn256b (T' := HL.row 5 1 rw (sgetP ((k0 : Nat) : Int) V2).1.length cw ((sgetP ((k0 : Nat) : Int) V2).1.map u8V) :: T4) (fun y hy => List.mem_cons_of_mem _ hy) List.mem_cons_self
                                  rw [show updV W k0 m4 (Rv.val ⟨k0, (sgetP ((k0 : Nat) : Int) V2).1, rw, cw⟩) = V2 by simp only; rw [hnow]; exact updW hW hrel hv2] at hrf5
                                  refine gl_nil ?_
                                  refine gx_block ?_
                                  refine gx_then ?_
                                  refine gc_region ?_
                                  refine gl_op (op_rd rfl (rd_move rfl) ?_)
                                  refine gl_op (op_rd rfl (by first | exact rd_addN (b := 1) rfl rfl (by omega) | exact rd_add rfl rfl (by omega) (by omega)) ?_)
                                  refine gl_op (op_rd rfl (rd_assign rfl) ?_)
                                  refine gl_nil ?_
                                  refine gx_then ?_
                                  exact gx_cut (⟨k + 1, V2, L5, rL5, cL5, HL.row 5 1 rw (sgetP ((k0 : Nat) : Int) V2).1.length cw ((sgetP ((k0 : Nat) : Int) V2).1.map u8V) :: T4⟩) ⟨⟨by simp only; omega, hrf5, .inr rfl, fun _ => rfl, fun y hy => List.mem_cons_of_mem _ (hT4 y hy)⟩, by simp only; omega⟩ ⟨rfl, rfl, rfl, rfl, rfl, rfl, rfl, rfl, rfl, rfl, trivial⟩ (sub_tail (A := [_, _, _, _, _, _, _, _, _, _, _, _, _]) (B := [_, _, _, _, _, _, _, _, _, _, _, _, _]) (T := T4) [0, 1, 3, 4, 5, 6, 7, 8, 9, 10, 11, 12, 2] 13 (by decide) (by decide) rfl rfl)
                                · skip
                                  refine gl_nil ?_
                                  refine gx_then ?_
                                  refine gc_cond_f rfl ?_
                                  refine gc_skip ?_
                                  refine gx_block ?_
                                  refine gx_then ?_
                                  refine gc_region ?_
                                  refine gl_op (op_rd rfl (rd_move rfl) ?_)
                                  refine gl_op (op_rd rfl (by first | exact rd_addN (b := 1) rfl rfl (by omega) | exact rd_add rfl rfl (by omega) (by omega)) ?_)
                                  refine gl_op (op_rd rfl (rd_assign rfl) ?_)
                                  refine gl_nil ?_
                                  refine gx_then ?_
                                  exact gx_cut (⟨k + 1, W, L4, rL4, cL4, T4⟩) ⟨⟨by simp only; omega, hrf4, hW, fun h => by rcases mem_take_succ hki h with h | h; exact hWk h; exact absurd h.symm (fun e => h182 (by omega)), hT4⟩, by simp only; omega⟩ ⟨rfl, rfl, rfl, rfl, rfl, rfl, rfl, rfl, rfl, rfl, trivial⟩ (sub_tail (A := [_, _, _, _, _, _, _, _, _, _, _, _]) (B := [_, _, _, _, _, _, _, _, _, _, _, _]) (T := T4) [0, 1, 2, 3, 4, 5, 6, 7, 8, 9, 10, 11] 12 (by decide) (by decide) rfl rfl)
                              · skip
                                refine gl_nil ?_
                                refine gx_then ?_
                                refine gc_cond_f rfl ?_
                                refine gc_exit ?_
                                refine gx_then_exit ?_
                                refine gx_then_exit ?_
                                refine gx_block_exit ?_
                                refine gx_then ?_
                                refine gc_seq ?_
                                obtain rfl : k = ks.length := by omega
                                rw [List.take_length] at hWk
                                have hWV := endW hW hrel hWk hkiff
                                rw [hWV] at hrf4
                                have hst4 : StOk f3 id3 m3 nb3 T4 num3 fb3 V2 := hst3.mono hT4
                                refine gc_region ?_
                                refine gl_op (op_rd rfl (rd_move rfl) ?_)
                                refine gl_op (op_rd rfl (rd_move rfl) ?_)
                                refine gl_op (op_callMW [_, _, _, _, _, _, _, _, _, _, _, _] T4 [2, 3, 4, 5, 6, 0, 1] [7, 8, 9, 10, 11] 12 rfl rfl rfl (vf := []) (vc := []) rfl rfl Try.call14 (by decide) (by decide) rfl (fun w how hc => all_ok f3 bs3 bf rb cb rp3 cp3 id3 bm3 num3 fb3 m3 nb3 T4 V2 hst4 L4 br rL4 cL4 hrf4 _ w hc) ?_)
                                rintro _ _ ⟨rfl, rfl⟩
                                refine gk_mid [_, _, _, _, _, _, _] T4 [_, _, _, _, _] ?_
                                refine gl_op (op_rd rfl (rd_not rfl) ?_)
                                refine gl_nil ?_
                                refine gx_then ?_
                                refine gc_cond_f rfl ?_
                                refine gc_skip ?_
                                refine gx_block ?_
                                refine gx_then ?_
                                refine gc_region ?_
                                refine gl_op (op_rd rfl (rd_move rfl) ?_)
                                refine gl_op (op_rd rfl (by first | exact rd_addN (b := 1) rfl rfl (by omega) | exact rd_add rfl rfl (by omega) (by omega)) ?_)
                                refine gl_op (op_rd rfl (rd_assign rfl) ?_)
                                refine gl_nil ?_
                                refine gx_then ?_
                                have q1 : f3.er ≤ 4 * (j + 1) + 1 := by omega
                                have q2 : f3.pr ≤ 100000 * (j + 1) := by rw [Nat.mul_succ]; omega
                                have q3 : f3.st ≤ 2 * (j + 1) + 1 := by omega
                                have q4 : num3 ≤ j + 1 := by omega
                                have q5 : j + 1 ≤ l.length := by omega
                                have q6 : l.length - (j + 1) < l.length - j := by omega
                                have q7 : f3.b.length = 256 * n := by omega
                                exact gx_cut (⟨j + 1, rp3, cp3, bs3, bm3, id3, num3, fb3, f3, m3, nb3, T4, V2, L4, rL4, cL4⟩) ⟨⟨q5, hst4, hrf4, hO.left, q7, q1, q2, q3, q4⟩, q6⟩ ⟨rfl, rfl, rfl, rfl, rfl, rfl, trivial⟩ (sub_tail (A := [_, _, _, _, _, _, _]) (B := [_, _, _, _, _, _, _, _, _, _, _, _]) (T := T4) [0, 1, 2, 3, 4, 5, 6] 12 (by decide) (by decide) rfl rfl)
                        · skip
                          exact absurd rfl h127
              · skip
                have hst1 := hst
                refine gl_op (op_rd rfl (rd_move rfl) ?_)
                refine gl_no rfl rfl rfl ?_
                refine gl_no rfl rfl rfl ?_
                refine gl_no rfl rfl rfl ?_
                refine gl_no rfl rfl rfl ?_
                refine gl_no rfl rfl rfl ?_
                refine gl_no rfl rfl rfl ?_
                refine gl_no rfl rfl rfl ?_
                refine gl_no rfl rfl rfl ?_
                refine gl_no rfl rfl rfl ?_
                refine gl_op (op_rd rfl (rd_pick_f rfl rfl) ?_)
                refine gl_nil ?_
                refine gx_then ?_
                refine gc_cond_f rfl ?_
                refine gc_skip ?_
                refine gx_then ?_
                refine gc_seq ?_
                refine gc_region ?_
                refine gl_op (op_rd rfl (rd_move rfl) ?_)
                refine gl_op (op_callMT [_, _, _, _, _, _, _, _] T [3, 4, 5] [0, 1, 2, 6, 7] 8 rfl rfl rfl (vf := []) (vc := []) rfl rfl Try.call16 (by decide) (by decide) rfl (fun w how hc => Counts_ok f hst1.ok bf rb cb rp cp _ w hc) ?_)
                rintro _ _ ⟨rfl, rfl⟩
                refine gl_op (op_rd rfl (rd_move rfl) ?_)
                refine gl_op (op_rd rfl (rd_extract rfl rfl) ?_)
                refine gl_op (op_rd rfl (rd_extract rfl rfl) ?_)
                refine gl_op (op_rd rfl (rd_assign rfl) ?_)
                refine gl_op (op_rd rfl (rd_assign rfl) ?_)
                refine gl_nil ?_
                refine gx_then ?_
                refine gc_seq ?_
                by_cases hbad : 16 < v.length
                · skip
                  refine gc_region ?_
                  refine gl_op (op_rd rfl (rd_move rfl) ?_)
                  refine gl_op (op_rd rfl (rd_move rfl) ?_)
                  refine gl_op (op_rd rfl (rd_fieldAddr rfl (fa_51_1 _)) ?_)
                  refine gl_op (op_rd rfl (rd_load Try.underlying36 rfl rfl (by first | exact ld_blk 0 rfl rfl | exact ld_blk 3 rfl rfl | exact ld_blk 4 rfl rfl | exact ld_blk 6 rfl rfl | exact ld_old (by assumption) (by simp) | exact ld_cells (by assumption) (by simp) rfl)) ?_)
                  refine gl_op (op_call rfl (vf := []) (vc := []) rfl rfl Try.call17 (fun w1 ho => Put_arg bs _ w1 (ho.blkCells 4 rfl) ((key : Nat) : Int) va v.length vc (.inr (.inr hbad))) ?_)
                  rintro _ _ ⟨rfl, rfl⟩
                  refine gl_op (op_rd rfl (rd_assign rfl) ?_)
                  refine gl_nil ?_
                  refine gx_then ?_
                  refine gc_seq ?_
                  refine gc_region ?_
                  refine gl_op (op_rd rfl (rd_move rfl) ?_)
                  refine gl_op (op_callMT [_, _, _, _, _, _, _, _] T [0, 1, 2] [3, 4, 5, 6, 7] 8 rfl rfl rfl (vf := []) (vc := []) rfl rfl Try.call16 (by decide) (by decide) rfl (fun w how hc => Counts_ok f hst1.ok bf rb cb rp cp _ w hc) ?_)
                  rintro _ _ ⟨rfl, rfl⟩
                  refine gl_op (op_rd rfl (rd_move rfl) ?_)
                  refine gl_op (op_rd rfl (rd_extract rfl rfl) ?_)
                  refine gl_op (op_rd rfl (rd_extract rfl rfl) ?_)
                  refine gl_op (op_rd rfl (rd_assign rfl) ?_)
                  refine gl_op (op_rd rfl (rd_assign rfl) ?_)
                  refine gl_nil ?_
                  refine gx_then ?_
                  refine gc_seq ?_
                  refine gc_seq ?_
                  refine gc_region ?_
                  refine gl_op (op_rd rfl (rd_move rfl) ?_)
                  refine gl_op (op_rd rfl (rd_move rfl) ?_)
                  refine gl_op (op_rd rfl (by first | exact rd_addN (b := 1) rfl rfl (by omega) | exact rd_add rfl rfl (by omega) (by omega)) ?_)
                  refine gl_op (op_rd rfl (rd_gtr rfl rfl) (gk_dec (fun h124 => ?_) (fun h124 => ?_)))
                  · skip
                    exfalso; omega
                  · skip
                    refine gl_op (op_rd rfl (rd_move rfl) ?_)
                    refine gl_yes rfl rfl (op_rd rfl (rd_move rfl) ?_)
                    refine gl_yes rfl rfl (op_rd rfl (rd_eql rfl rfl) (gk_dec (fun h127 => ?_) (fun h127 => ?_)))
                    · skip
                      exact absurd h127 (by decide)
                    · skip
                      refine gl_yes rfl rfl (op_rd rfl (rd_move rfl) ?_)
                      refine gl_yes rfl rfl (op_call rfl (vf := []) (vc := []) rfl rfl Try.call20 (fun w1 ho => DownS_q f hst1.ok bf rb cb rp cp w1 (ho.blkCells 0 rfl)) ?_)
                      rintro _ _ ⟨rfl, rfl⟩
                      rw [hst1.dn]
                      refine gl_yes rfl rfl (op_rd rfl (rd_neqb Try.runUnderlying4 rfl rfl) ?_)
                      refine gk_bool (fun h130 => ?_) (fun h130 => ?_)
                      · skip
                        simp at h130
                      · skip
                        refine gl_op (op_rd rfl (rd_pick_f rfl rfl) ?_)
                        refine gl_nil ?_
                        refine gx_then ?_
                        refine gc_cond_f rfl ?_
                        refine gc_skip ?_
                        refine gx_then ?_
                        refine gc_seq ?_
                        refine gc_seq ?_
                        refine gc_region ?_
                        refine gl_op (op_rd rfl (rd_move rfl) ?_)
                        refine gl_op (op_rd rfl (rd_neq rfl rfl) (gk_dec (fun h133 => ?_) (fun h133 => ?_)))
                        · skip
                          refine gl_nil ?_
                          refine gx_then ?_
                          refine gc_cond_t rfl ?_
                          refine gc_seq ?_
                          refine gc_seq ?_
                          refine gc_region ?_
                          refine gl_op (op_rd rfl (rd_move rfl) ?_)
                          refine gl_op (op_rd rfl (rd_move rfl) ?_)
                          refine gl_op (op_rd rfl (rd_move rfl) ?_)
                          refine gl_op (op_rd rfl (rd_fieldAddr rfl (fa_51_1 _)) ?_)
                          refine gl_op (op_rd rfl (rd_load Try.underlying36 rfl rfl (by first | exact ld_blk 0 rfl rfl | exact ld_blk 3 rfl rfl | exact ld_blk 4 rfl rfl | exact ld_blk 6 rfl rfl | exact ld_old (by assumption) (by simp) | exact ld_cells (by assumption) (by simp) rfl)) ?_)
                          refine gl_op (op_call rfl (vf := []) (vc := []) rfl rfl Try.call18 (fun w1 ho => rPut_arg br ((key : Nat) : Int) va v.length vc (.inr (.inr hbad)) w1) ?_)
                          rintro _ _ ⟨rfl, rfl⟩
                          refine gl_op (op_rd rfl (rd_neq rfl rfl) (gk_dec (fun h140 => ?_) (fun h140 => ?_)))
                          · skip
                            exact absurd rfl h140
                          · skip
                            refine gl_op (op_rd rfl (rd_move rfl) ?_)
                            refine gl_yes rfl rfl (op_rd rfl (rd_move rfl) ?_)
                            refine gl_yes rfl rfl (op_callMT [_, _, _, _, _, _, _, _] T [0, 1, 2] [3, 4, 5, 6, 7] 8 rfl rfl rfl (vf := []) (vc := []) rfl rfl Try.call21 (by decide) (by decide) rfl (fun w how hc => Restart_ok f hst1.ok bf rb cb rp cp _ w hc) ?_)
                            rintro _ _ ⟨rfl, rfl⟩
                            refine gl_yes rfl rfl (op_rd rfl (rd_neq rfl rfl) (gk_dec (fun h144 => ?_) (fun h144 => ?_)))
                            · skip
                              exact absurd rfl h144
                            · skip
                              refine gl_op (op_rd rfl (rd_pick_f rfl rfl) ?_)
                              refine gl_nil ?_
                              refine gx_then ?_
                              refine gc_cond_f rfl ?_
                              refine gc_skip ?_
                              refine gx_then ?_
                              refine gc_exit ?_
                              refine gx_then_exit ?_
                              refine gx_block_exit ?_
                              refine gx_then ?_
                              refine gc_region ?_
                              refine gl_op (op_rd rfl (rd_move rfl) ?_)
                              refine gl_op (op_rd rfl (by first | exact rd_addN (b := 1) rfl rfl (by omega) | exact rd_add rfl rfl (by omega) (by omega)) ?_)
                              refine gl_op (op_rd rfl (rd_assign rfl) ?_)
                              refine gl_nil ?_
                              refine gx_then ?_
                              have q1 : f.er ≤ 4 * (j + 1) + 1 := by omega
                              have q2 : f.pr ≤ 100000 * (j + 1) := by rw [Nat.mul_succ]; omega
                              have q3 : f.st ≤ 2 * (j + 1) + 1 := by omega
                              have q4 : num ≤ j + 1 := by omega
                              have q5 : j + 1 ≤ l.length := by omega
                              have q6 : l.length - (j + 1) < l.length - j := by omega
                              have q7 : f.b.length = 256 * n := by omega
                              exact gx_cut (⟨j + 1, none, 0, bs, bm, id, num, fb, (flRestart f), m, nb, T, V, L, rL, cL⟩) ⟨⟨q5, hst1.restart, hrf, rfl, q7, q1, q2, q3, q4⟩, q6⟩ ⟨rfl, rfl, rfl, rfl, rfl, rfl, trivial⟩ (sub_tail (A := [_, _, _, _, _, _, _]) (B := [_, _, _, _, _, _, _, _]) (T := T) [4, 5, 0, 1, 2, 6, 7] 8 (by decide) (by decide) rfl rfl)
                        · skip
                          exact absurd (by decide) h133
                · skip
                  refine gc_region ?_
                  refine gl_op (op_rd rfl (rd_move rfl) ?_)
                  refine gl_op (op_rd rfl (rd_move rfl) ?_)
                  refine gl_op (op_rd rfl (rd_fieldAddr rfl (fa_51_1 _)) ?_)
                  refine gl_op (op_rd rfl (rd_load Try.underlying36 rfl rfl (by first | exact ld_blk 0 rfl rfl | exact ld_blk 3 rfl rfl | exact ld_blk 4 rfl rfl | exact ld_blk 6 rfl rfl | exact ld_old (by assumption) (by simp) | exact ld_cells (by assumption) (by simp) rfl)) ?_)
                  refine gl_op (op_callMW [_, _, _, _, _, _, _, _] T [4, 5, 0, 1, 2] [3, 6, 7] 8 rfl rfl rfl (vf := []) (vc := []) rfl rfl Try.call17 (by decide) (by decide) rfl (fun w how hc => PutG_ok f bs bf rb cb rp cp id bm num fb m nb T V hst1 _ w hc (by omega) (by omega) (by omega) key (by omega) v hvv (by omega) va vc (slOutW (B := [_, _, _, _, _, _, _, _]) (T := T) how hvsl (by decide) [4, 5, 0, 1, 2])) ?_)
                  rintro _ _ (⟨hfull, rfl, rfl⟩ | ⟨hnf, f2, m2, nb2, fb2, T2, rfl, hPF, hst2, hTT, rfl⟩ | ⟨hnf, f2, m2, nb2, fb2, num2, id2, T2, rfl, hPF, hPT, hTT, rfl⟩)
                  · skip
                    refine gk_mid [_, _, _, _, _] T [_, _, _] ?_
                    refine gl_op (op_rd rfl (rd_assign rfl) ?_)
                    refine gl_nil ?_
                    refine gx_then ?_
                    refine gc_seq ?_
                    refine gc_region ?_
                    refine gl_op (op_rd rfl (rd_move rfl) ?_)
                    refine gl_op (op_callMT [_, _, _, _, _, _, _, _] T [2, 3, 4] [0, 1, 5, 6, 7] 8 rfl rfl rfl (vf := []) (vc := []) rfl rfl Try.call16 (by decide) (by decide) rfl (fun w how hc => Counts_ok f hst1.ok bf rb cb rp cp _ w hc) ?_)
                    rintro _ _ ⟨rfl, rfl⟩
                    refine gl_op (op_rd rfl (rd_move rfl) ?_)
                    refine gl_op (op_rd rfl (rd_extract rfl rfl) ?_)
                    refine gl_op (op_rd rfl (rd_extract rfl rfl) ?_)
                    refine gl_op (op_rd rfl (rd_assign rfl) ?_)
                    refine gl_op (op_rd rfl (rd_assign rfl) ?_)
                    refine gl_nil ?_
                    refine gx_then ?_
                    refine gc_seq ?_
                    refine gc_seq ?_
                    refine gc_region ?_
                    refine gl_op (op_rd rfl (rd_move rfl) ?_)
                    refine gl_op (op_rd rfl (rd_move rfl) ?_)
                    refine gl_op (op_rd rfl (by first | exact rd_addN (b := 1) rfl rfl (by omega) | exact rd_add rfl rfl (by omega) (by omega)) ?_)
                    refine gl_op (op_rd rfl (rd_gtr rfl rfl) (gk_dec (fun h124 => ?_) (fun h124 => ?_)))
                    · skip
                      exfalso; omega
                    · skip
                      refine gl_op (op_rd rfl (rd_move rfl) ?_)
                      refine gl_yes rfl rfl (op_rd rfl (rd_move rfl) ?_)
                      refine gl_yes rfl rfl (op_rd rfl (rd_eql rfl rfl) (gk_dec (fun h127 => ?_) (fun h127 => ?_)))
                      · skip
                        exact absurd h127 (by decide)
                      · skip
                        refine gl_yes rfl rfl (op_rd rfl (rd_move rfl) ?_)
                        refine gl_yes rfl rfl (op_call rfl (vf := []) (vc := []) rfl rfl Try.call20 (fun w1 ho => DownS_q f hst1.ok bf rb cb rp cp w1 (ho.blkCells 0 rfl)) ?_)
                        rintro _ _ ⟨rfl, rfl⟩
                        rw [hst1.dn]
                        refine gl_yes rfl rfl (op_rd rfl (rd_neqb Try.runUnderlying4 rfl rfl) ?_)
                        refine gk_bool (fun h130 => ?_) (fun h130 => ?_)
                        · skip
                          simp at h130
                        · skip
                          refine gl_op (op_rd rfl (rd_pick_f rfl rfl) ?_)
                          refine gl_nil ?_
                          refine gx_then ?_
                          refine gc_cond_f rfl ?_
                          refine gc_skip ?_
                          refine gx_then ?_
                          refine gc_seq ?_
                          refine gc_seq ?_
                          refine gc_region ?_
                          refine gl_op (op_rd rfl (rd_move rfl) ?_)
                          refine gl_op (op_rd rfl (rd_neq rfl rfl) (gk_dec (fun h133 => ?_) (fun h133 => ?_)))
                          · skip
                            refine gl_nil ?_
                            refine gx_then ?_
                            refine gc_cond_t rfl ?_
                            refine gc_seq ?_
                            refine gc_seq ?_
                            refine gc_region ?_
                            refine gl_op (op_rd rfl (rd_move rfl) ?_)
                            refine gl_op (op_rd rfl (rd_move rfl) ?_)
                            refine gl_op (op_rd rfl (rd_move rfl) ?_)
                            refine gl_op (op_rd rfl (rd_fieldAddr rfl (fa_51_1 _)) ?_)
                            refine gl_op (op_rd rfl (rd_load Try.underlying36 rfl rfl (by first | exact ld_blk 0 rfl rfl | exact ld_blk 3 rfl rfl | exact ld_blk 5 rfl rfl | exact ld_blk 6 rfl rfl | exact ld_old (by assumption) (by simp) | exact ld_cells (by assumption) (by simp) rfl)) ?_)
                            refine gl_op (op_callMT [_, _, _, _, _, _, _, _] T [6, 7] [0, 1, 2, 3, 4, 5] 8 rfl rfl rfl (vf := []) (vc := []) rfl rfl Try.call18 (by decide) (by decide) rfl (fun w how hc => rPut_full L br (f.b.length / 256) rL cL hLb _ w hc (by omega) (by omega) key v va vc (slOutT (B := [_, _, _, _, _, _, _, _]) (T := T) how hvsl (by decide) [6, 7]) hvl (rput_full hrf (by omega) (by omega) (by rw [← hsk.2]; exact hfull))) ?_)
                            rintro _ _ ⟨rfl, rfl⟩
                            refine gl_op (op_rd rfl (rd_neq rfl rfl) (gk_dec (fun h140 => ?_) (fun h140 => ?_)))
                            · skip
                              exact absurd rfl h140
                            · skip
                              refine gl_op (op_rd rfl (rd_move rfl) ?_)
                              refine gl_yes rfl rfl (op_rd rfl (rd_move rfl) ?_)
                              refine gl_yes rfl rfl (op_callMT [_, _, _, _, _, _, _, _] T [2, 3, 4] [0, 1, 5, 6, 7] 8 rfl rfl rfl (vf := []) (vc := []) rfl rfl Try.call21 (by decide) (by decide) rfl (fun w how hc => Restart_ok f hst1.ok bf rb cb rp cp _ w hc) ?_)
                              rintro _ _ ⟨rfl, rfl⟩
                              refine gl_yes rfl rfl (op_rd rfl (rd_neq rfl rfl) (gk_dec (fun h144 => ?_) (fun h144 => ?_)))
                              · skip
                                exact absurd rfl h144
                              · skip
                                refine gl_op (op_rd rfl (rd_pick_f rfl rfl) ?_)
                                refine gl_nil ?_
                                refine gx_then ?_
                                refine gc_cond_f rfl ?_
                                refine gc_skip ?_
                                refine gx_then ?_
                                refine gc_exit ?_
                                refine gx_then_exit ?_
                                refine gx_block_exit ?_
                                refine gx_then ?_
                                refine gc_region ?_
                                refine gl_op (op_rd rfl (rd_move rfl) ?_)
                                refine gl_op (op_rd rfl (by first | exact rd_addN (b := 1) rfl rfl (by omega) | exact rd_add rfl rfl (by omega) (by omega)) ?_)
                                refine gl_op (op_rd rfl (rd_assign rfl) ?_)
                                refine gl_nil ?_
                                refine gx_then ?_
                                have q1 : f.er ≤ 4 * (j + 1) + 1 := by omega
                                have q2 : f.pr ≤ 100000 * (j + 1) := by rw [Nat.mul_succ]; omega
                                have q3 : f.st ≤ 2 * (j + 1) + 1 := by omega
                                have q4 : num ≤ j + 1 := by omega
                                have q5 : j + 1 ≤ l.length := by omega
                                have q6 : l.length - (j + 1) < l.length - j := by omega
                                have q7 : f.b.length = 256 * n := by omega
                                exact gx_cut (⟨j + 1, none, 0, bs, bm, id, num, fb, (flRestart f), m, nb, T, V, L, rL, cL⟩) ⟨⟨q5, hst1.restart, hrf, rfl, q7, q1, q2, q3, q4⟩, q6⟩ ⟨rfl, rfl, rfl, rfl, rfl, rfl, trivial⟩ (sub_tail (A := [_, _, _, _, _, _, _]) (B := [_, _, _, _, _, _, _, _]) (T := T) [5, 6, 0, 1, 2, 3, 4] 8 (by decide) (by decide) rfl rfl)
                          · skip
                            exact absurd (by decide) h133
                  · skip
                    refine gk_mid [_, _, _, _, _] T2 [_, _, _] ?_
                    have hF1 := hPF.er
                    have hF2 := hPF.pr
                    have hF3 := hPF.st
                    have hF4 := hPF.len
                    rw [show f.b.length / 256 = f2.b.length / 256 by rw [hF4]]
                    refine gl_op (op_rd rfl (rd_assign rfl) ?_)
                    refine gl_nil ?_
                    refine gx_then ?_
                    refine gc_seq ?_
                    refine gc_region ?_
                    refine gl_op (op_rd rfl (rd_move rfl) ?_)
                    refine gl_op (op_callMT [_, _, _, _, _, _, _, _] T2 [2, 3, 4] [0, 1, 5, 6, 7] 8 rfl rfl rfl (vf := []) (vc := []) rfl rfl Try.call16 (by decide) (by decide) rfl (fun w how hc => Counts_ok f2 hPF.ok bf rb cb rp cp _ w hc) ?_)
                    rintro _ _ ⟨rfl, rfl⟩
                    refine gl_op (op_rd rfl (rd_move rfl) ?_)
                    refine gl_op (op_rd rfl (rd_extract rfl rfl) ?_)
                    refine gl_op (op_rd rfl (rd_extract rfl rfl) ?_)
                    refine gl_op (op_rd rfl (rd_assign rfl) ?_)
                    refine gl_op (op_rd rfl (rd_assign rfl) ?_)
                    refine gl_nil ?_
                    refine gx_then ?_
                    refine gc_seq ?_
                    refine gc_seq ?_
                    refine gc_region ?_
                    refine gl_op (op_rd rfl (rd_move rfl) ?_)
                    refine gl_op (op_rd rfl (rd_move rfl) ?_)
                    refine gl_op (op_rd rfl (by first | exact rd_addN (b := 1) rfl rfl (by omega) | exact rd_add rfl rfl (by omega) (by omega)) ?_)
                    refine gl_op (op_rd rfl (rd_gtr rfl rfl) (gk_dec (fun h124 => ?_) (fun h124 => ?_)))
                    · skip
                      exfalso; omega
                    · skip
                      refine gl_op (op_rd rfl (rd_move rfl) ?_)
                      refine gl_yes rfl rfl (op_rd rfl (rd_move rfl) ?_)
                      refine gl_yes rfl rfl (op_rd rfl (rd_eql rfl rfl) (gk_dec (fun h127 => ?_) (fun h127 => ?_)))
                      · skip
                        exact absurd h127 (by decide)
                      · skip
                        refine gl_yes rfl rfl (op_rd rfl (rd_move rfl) ?_)
                        refine gl_yes rfl rfl (op_call rfl (vf := []) (vc := []) rfl rfl Try.call20 (fun w1 ho => DownS_q f2 hPF.ok bf rb cb rp cp w1 (ho.blkCells 0 rfl)) ?_)
                        rintro _ _ ⟨rfl, rfl⟩
                        rw [hst2.dn]
                        refine gl_yes rfl rfl (op_rd rfl (rd_neqb Try.runUnderlying4 rfl rfl) ?_)
                        refine gk_bool (fun h130 => ?_) (fun h130 => ?_)
                        · skip
                          simp at h130
                        · skip
                          refine gl_op (op_rd rfl (rd_pick_f rfl rfl) ?_)
                          refine gl_nil ?_
                          refine gx_then ?_
                          refine gc_cond_f rfl ?_
                          refine gc_skip ?_
                          refine gx_then ?_
                          refine gc_seq ?_
                          refine gc_seq ?_
                          refine gc_region ?_
                          refine gl_op (op_rd rfl (rd_move rfl) ?_)
                          refine gl_op (op_rd rfl (rd_neq rfl rfl) (gk_dec (fun h133 => ?_) (fun h133 => ?_)))
                          · skip
                            refine gl_nil ?_
                            refine gx_then ?_
                            refine gc_cond_t rfl ?_
                            refine gc_seq ?_
                            refine gc_seq ?_
                            refine gc_region ?_
                            refine gl_op (op_rd rfl (rd_move rfl) ?_)
                            refine gl_op (op_rd rfl (rd_move rfl) ?_)
                            refine gl_op (op_rd rfl (rd_move rfl) ?_)
                            refine gl_op (op_rd rfl (rd_fieldAddr rfl (fa_51_1 _)) ?_)
                            refine gl_op (op_rd rfl (rd_load Try.underlying36 rfl rfl (by first | exact ld_blk 0 rfl rfl | exact ld_blk 3 rfl rfl | exact ld_blk 5 rfl rfl | exact ld_blk 6 rfl rfl | exact ld_old (by assumption) (by simp) | exact ld_cells (by assumption) (by simp) rfl)) ?_)
                            refine gl_op (op_callMT [_, _, _, _, _, _, _, _] T2 [6, 7] [0, 1, 2, 3, 4, 5] 8 rfl rfl rfl (vf := []) (vc := []) rfl rfl Try.call18 (by decide) (by decide) rfl (fun w how hc => rPut_go L br (f2.b.length / 256) rL cL hLb _ w hc (by omega) (by omega) key v va vc (slOutT (B := [_, _, _, _, _, _, _, _]) (T := T2) how hvsl (by decide) [6, 7]) hvl (rput_go hrf (by omega) (by omega) (by rw [hF4, ← hsk.2]; exact hnf))) ?_)
                            rintro _ _ ⟨rw, cw, rL2, cL2, L2, rfl, hins, rfl⟩
                            refine gl_op (op_rd rfl (rd_neq rfl rfl) (gk_dec (fun h140 => ?_) (fun h140 => ?_)))
                            · skip
                              exact absurd rfl h140
                            · skip
                              refine gl_op (op_rd rfl (rd_move rfl) ?_)
                              refine gl_yes rfl rfl (op_rd rfl (rd_move rfl) ?_)
                              refine gl_yes rfl rfl (op_callMT [_, _, _, _, _, _, _, _, _] T2 [3, 4, 5] [0, 1, 2, 6, 7, 8] 9 rfl rfl rfl (vf := []) (vc := []) rfl rfl Try.call21 (by decide) (by decide) rfl (fun w how hc => Restart_ok f2 hPF.ok bf rb cb rp cp _ w hc) ?_)
                              rintro _ _ ⟨rfl, rfl⟩
                              refine gl_yes rfl rfl (op_rd rfl (rd_neq rfl rfl) (gk_dec (fun h144 => ?_) (fun h144 => ?_)))
                              · skip
                                exact absurd rfl h144
                              · skip
                                refine gl_op (op_rd rfl (rd_pick_f rfl rfl) ?_)
                                refine gl_nil ?_
                                refine gx_then ?_
                                refine gc_cond_f rfl ?_
                                refine gc_skip ?_
                                refine gx_then ?_
                                refine gc_exit ?_
                                refine gx_then_exit ?_
                                refine gx_block_exit ?_
                                refine gx_then ?_
                                refine gc_region ?_
                                refine gl_op (op_rd rfl (rd_move rfl) ?_)
                                refine gl_op (op_rd rfl (by first | exact rd_addN (b := 1) rfl rfl (by omega) | exact rd_add rfl rfl (by omega) (by omega)) ?_)
                                refine gl_op (op_rd rfl (rd_assign rfl) ?_)
                                refine gl_nil ?_
                                refine gx_then ?_
                                have q1 : f2.er ≤ 4 * (j + 1) + 1 := by omega
                                have q2 : f2.pr ≤ 100000 * (j + 1) := by rw [Nat.mul_succ]; omega
                                have q3 : f2.st ≤ 2 * (j + 1) + 1 := by omega
                                have q4 : (num + 1) ≤ j + 1 := by omega
                                have q5 : j + 1 ≤ l.length := by omega
                                have q6 : l.length - (j + 1) < l.length - j := by omega
                                have q7 : f2.b.length = 256 * n := by omega
                                exact gx_cut (⟨j + 1, none, 0, bs, bm, id, num + 1, fb2, (flRestart f2), m2, nb2, (HL.row 5 1 rw v.length cw (v.map u8V) :: T2), (updV V key (num + 1) v), L2, rL2, cL2⟩) ⟨⟨q5, hst2.restart.mono (fun y hy => List.mem_cons_of_mem _ hy), rs_put (x := ⟨key, v, rw, cw⟩) hrf hins rfl (by omega) (by simp only; omega) hvv (fun y hy => List.mem_cons_of_mem _ (hTT y hy)) List.mem_cons_self, rfl, q7, q1, q2, q3, q4⟩, q6⟩ ⟨rfl, rfl, rfl, rfl, rfl, rfl, trivial⟩ (sub_tail (A := [_, _, _, _, _, _, _, _]) (B := [_, _, _, _, _, _, _, _, _]) (T := T2) [6, 7, 0, 1, 2, 3, 4, 5] 9 (by decide) (by decide) rfl rfl)
                          · skip
                            exact absurd (by decide) h133
                  · skip
                    refine gk_mid [_, _, _, _, _] T2 [_, _, _] ?_
                    have hF1 := hPF.er
                    have hF2 := hPF.pr
                    have hF3 := hPF.st
                    have hF4 := hPF.len
                    rw [show f.b.length / 256 = f2.b.length / 256 by rw [hF4]]
                    obtain ⟨V2, hrel, hfi2⟩ := hPT.fi
                    have hdn2 := hPT.dn
                    refine gl_op (op_rd rfl (rd_assign rfl) ?_)
                    refine gl_nil ?_
                    refine gx_then ?_
                    refine gc_seq ?_
                    refine gc_region ?_
                    refine gl_op (op_rd rfl (rd_move rfl) ?_)
                    refine gl_op (op_callMT [_, _, _, _, _, _, _, _] T2 [2, 3, 4] [0, 1, 5, 6, 7] 8 rfl rfl rfl (vf := []) (vc := []) rfl rfl Try.call16 (by decide) (by decide) rfl (fun w how hc => Counts_ok f2 hPF.ok bf rb cb rp cp _ w hc) ?_)
                    rintro _ _ ⟨rfl, rfl⟩
                    refine gl_op (op_rd rfl (rd_move rfl) ?_)
                    refine gl_op (op_rd rfl (rd_extract rfl rfl) ?_)
                    refine gl_op (op_rd rfl (rd_extract rfl rfl) ?_)
                    refine gl_op (op_rd rfl (rd_assign rfl) ?_)
                    refine gl_op (op_rd rfl (rd_assign rfl) ?_)
                    refine gl_nil ?_
                    refine gx_then ?_
                    refine gc_seq ?_
                    refine gc_seq ?_
                    refine gc_region ?_
                    refine gl_op (op_rd rfl (rd_move rfl) ?_)
                    refine gl_op (op_rd rfl (rd_move rfl) ?_)
                    refine gl_op (op_rd rfl (by first | exact rd_addN (b := 1) rfl rfl (by omega) | exact rd_add rfl rfl (by omega) (by omega)) ?_)
                    refine gl_op (op_rd rfl (rd_gtr rfl rfl) (gk_dec (fun h124 => ?_) (fun h124 => ?_)))
                    · skip
                      exfalso; omega
                    · skip
                      refine gl_op (op_rd rfl (rd_move rfl) ?_)
                      refine gl_yes rfl rfl (op_rd rfl (rd_move rfl) ?_)
                      refine gl_yes rfl rfl (op_rd rfl (rd_eql rfl rfl) (gk_dec (fun h127 => ?_) (fun h127 => ?_)))
                      · skip
                        refine gl_yes rfl rfl (op_rd rfl (rd_move rfl) ?_)
                        refine gl_yes rfl rfl (op_call rfl (vf := []) (vc := []) rfl rfl Try.call20 (fun w1 ho => DownS_q f2 hPF.ok bf rb cb rp cp w1 (ho.blkCells 0 rfl)) ?_)
                        rintro _ _ ⟨rfl, rfl⟩
                        rw [hdn2]
                        refine gl_yes rfl rfl (op_rd rfl (rd_neqb Try.runUnderlying4 rfl rfl) ?_)
                        refine gk_bool (fun h130 => ?_) (fun h130 => ?_)
                        · skip
                          simp at h130
                        · skip
                          refine gl_op (op_rd rfl (rd_pick_f rfl rfl) ?_)
                          refine gl_nil ?_
                          refine gx_then ?_
                          refine gc_cond_f rfl ?_
                          refine gc_skip ?_
                          refine gx_then ?_
                          refine gc_seq ?_
                          refine gc_seq ?_
                          refine gc_region ?_
                          refine gl_op (op_rd rfl (rd_move rfl) ?_)
                          refine gl_op (op_rd rfl (rd_neq rfl rfl) (gk_dec (fun h133 => ?_) (fun h133 => ?_)))
                          · skip
                            exact absurd rfl h133
                          · skip
                            refine gl_nil ?_
                            refine gx_then ?_
                            refine gc_cond_f rfl ?_
                            refine gc_skip ?_
                            refine gx_then ?_
                            refine gc_seq ?_
                            refine gc_region ?_
                            refine gl_op (op_rd rfl (rd_move rfl) ?_)
                            refine gl_op (op_rd rfl (rd_loadAgg Try.underlying51 rfl ty_51 rfl (by first | exact cs_blk 0 (off := 0) (k := 6) rfl rfl | exact cs_blk 3 (off := 0) (k := 6) rfl rfl | exact cs_blk 5 (off := 0) (k := 6) rfl rfl | exact cs_blk 6 (off := 0) (k := 6) rfl rfl | exact cs_old (by assumption) (by simp)) rfl) ?_)
                            have hcapV : CapV V2 (10 * (f.b.length / 256 - 2)) := by
                              rcases hrel with rfl | rfl
                              · exact hst1.capV
                              · exact capV_upd hst1 hnf hst1.cap
                            refine gl_op (op_callMT [_, _, _, _, _, _, _, _] T2 [0, 1, 2] [3, 4, 5, 6, 7] 8 rfl rfl rfl (vf := []) (vc := []) rfl rfl Try.call22 (by decide) (by decide) rfl (fun w how hc => opened_ok f2 hPF.ok bf rb cb rp cp _ w hc (num + 1) V2 hfi2 (by rw [hF4]; exact hPT.sp) (by rw [hF4]; exact hcapV) (by omega) (by omega) ⟨kk, va, vc, v, lose, again, after, pa, pc, ps⟩ ⟨hkk, haf, hvv, hpv, (slOutT (B := [_, _, _, _, _, _, _, _]) (T := T2) how hvsl (by decide) [0, 1, 2]), (slOutT (B := [_, _, _, _, _, _, _, _]) (T := T2) how hpsl (by decide) [0, 1, 2]), hvl, hpl⟩ hp256) ?_)
                            rintro _ _ ⟨bs3, rp3, cp3, bm3, f3, m3, nb3, T3, num3, fb3, id3, rfl, hO, rfl⟩
                            refine gk_mid2 [_, _, _, _, _] T3 [_, _, _, _, _] T2 ?_
                            have hst3 : StOk f3 id3 m3 nb3 (T2 ++ T3) num3 fb3 V2 := hO.st.mono (fun y hy => List.mem_append_right _ hy)
                            have hrf3 : RfOk L (T2 ++ T3) V := hrf.mono (fun y hy => List.mem_append_left _ (hTT y hy))
                            have o1 := hO.er
                            have o2 := hO.pr
                            have o3 := hO.hst
                            have o4 := hO.num
                            have o5 := hO.len
                            rw [show f2.b.length / 256 = f3.b.length / 256 by rw [o5]]
                            have hcap3 := hst3.cap
                            refine gl_op (op_rd rfl (rd_assign rfl) ?_)
                            refine gl_nil ?_
                            refine gx_then ?_
                            refine gc_seq ?_
                            refine gc_seq ?_
                            refine gc_region ?_
                            refine gl_op (op_rd rfl (rd_move rfl) ?_)
                            refine gl_op (op_rd rfl (rd_eqlNilPt eg_29 Try.underlying29 rfl rfl) ?_)
                            refine gl_op (op_rd rfl (rd_move rfl) ?_)
                            refine gl_yes rfl rfl (op_rd rfl (rd_move rfl) ?_)
                            refine gl_yes rfl rfl (op_rd rfl (rd_move rfl) ?_)
                            refine gl_yes rfl rfl (op_rd rfl (rd_move rfl) ?_)
                            refine gl_yes rfl rfl (op_rd rfl (rd_fieldAddr rfl (fa_51_1 _)) ?_)
                            refine gl_yes rfl rfl (op_rd rfl (rd_load Try.underlying36 rfl rfl (by first | exact ld_blk 0 rfl rfl | exact ld_blk 2 rfl rfl | exact ld_blk 5 rfl rfl | exact ld_blk 7 rfl rfl | exact ld_blk 8 rfl rfl | exact ld_old (by assumption) (by simp) | exact ld_cells (by assumption) (by simp) rfl)) ?_)
                            refine gl_yes rfl rfl (op_callMW [_, _, _, _, _, _, _, _, _, _] (T2 ++ T3) [0, 1, 2, 3, 4, 8, 9] [5, 6, 7] 10 rfl rfl rfl (vf := []) (vc := []) rfl rfl Try.call23 (by decide) (by decide) rfl (fun w how hc => holds_ok f3 bs3 bf rb cb rp3 cp3 id3 bm3 num3 fb3 m3 nb3 (T2 ++ T3) V V2 hst3 L br rL cL hrf3 key (num + 1) (by omega) v hrel _ w hc va vc (slOutW (B := [_, _, _, _, _, _, _, _, _, _]) (T := (T2 ++ T3)) how hvsl (by decide) [0, 1, 2, 3, 4, 8, 9])) ?_)
                            rintro _ _ ⟨rfl, rfl⟩
                            refine gk_mid [_, _, _, _, _, _, _] (T2 ++ T3) [_, _, _] ?_
                            refine gl_yes rfl rfl (op_rd rfl (rd_not rfl) ?_)
                            refine gl_op (op_rd rfl (rd_pick_f rfl rfl) ?_)
                            refine gl_nil ?_
                            refine gx_then ?_
                            refine gc_cond_f rfl ?_
                            refine gc_skip ?_
                            refine gx_then ?_
                            refine gc_seq ?_
                            refine gc_region ?_
                            refine gl_op (op_rd rfl (rd_move rfl) ?_)
                            refine gl_op (op_rd rfl (rd_move rfl) ?_)
                            refine gl_op (op_callMW [_, _, _, _, _, _, _, _, _, _] (T2 ++ T3) [0, 1, 2, 3, 4] [5, 6, 7, 8, 9] 10 rfl rfl rfl (vf := []) (vc := []) rfl rfl Try.call12 (by decide) (by decide) rfl (fun w how hc => GetM_ok f3 bs3 bf rb cb rp3 cp3 id3 bm3 num3 fb3 m3 nb3 (T2 ++ T3) V2 hst3 _ w hc ((key : Nat) : Int)) ?_)
                            rintro _ _ ⟨rg, cg, rfl, rfl⟩
                            refine gk_mid [_, _, _, _, _, _] (T2 ++ T3) [_, _, _, _, _] ?_
                            refine gl_op (op_rd rfl (rd_move rfl) ?_)
                            refine gl_op (op_rd rfl (rd_extract rfl rfl) ?_)
                            refine gl_op (op_rd rfl (rd_extract rfl rfl) ?_)
                            refine gl_op (op_rd rfl (rd_assign rfl) ?_)
                            refine gl_op (op_rd rfl (rd_assign rfl) ?_)
                            refine gl_nil ?_
                            refine gx_then ?_
                            refine gc_seq ?_
                            refine gc_region ?_
                            refine gl_op (op_rd rfl (rd_move rfl) ?_)
                            refine gl_op (op_callMT [_, _, _, _, _, _, _, _, _, _, _] (T2 ++ T3) [1, 2, 3, 4, 5] [0, 6, 7, 8, 9, 10] 11 rfl rfl rfl (vf := []) (vc := []) rfl rfl Try.call24 (by decide) (by decide) rfl (fun w how hc => Keys_ok f3 bs3 bf rb cb rp3 cp3 id3 bm3 num3 fb3 m3 nb3 (T2 ++ T3) V2 hst3 _ w hc) ?_)
                            rintro _ _ ⟨rk, ck, rfl, rfl⟩
                            have hlk := keysP_len (plain m3)
                            have hpm3 : (plain m3).length = m3.length := by simp [plain]
                            obtain ⟨ks, hks⟩ : ∃ ks, keysP (plain m3) = ks := ⟨_, rfl⟩
                            have hkiff : key ∈ ks ↔ (V2 key).isSome = true := by rw [← hks]; exact keysP_iff hst3 key
                            rw [hks]
                            rw [hks] at hlk
                            refine gl_op (op_rd rfl (rd_move rfl) ?_)
                            refine gl_op (op_rd rfl (rd_extract rfl rfl) ?_)
                            refine gl_op (op_rd rfl (rd_extract rfl rfl) ?_)
                            refine gl_op (op_rd rfl (rd_assign rfl) ?_)
                            refine gl_op (op_rd rfl (rd_assign rfl) ?_)
                            refine gl_nil ?_
                            refine gx_then ?_
                            refine gc_seq ?_
                            refine gc_seq ?_
                            refine gc_region ?_
                            refine gl_op (op_rd rfl (rd_assign rfl) ?_)
                            refine gl_nil ?_
                            refine gx_then ?_
                            refine gc_block ?_
                            refine gc_loopF (ι := AgS) [(1, _), (6, _), (7, _), (9, _), (11, _), (12, _), (14, _), (20, _), (22, _)] [_, _, _, _, _, _, _, _, _, _] (fun s => s.k ≤ ks.length ∧ RfOk s.L s.T s.W ∧ (s.W = V ∨ s.W = V2) ∧ (key ∈ ks.take s.k → s.W = V2) ∧ ∀ y ∈ T2 ++ T3, y ∈ s.T) (fun s Fr0 => ((24, natV s.k) :: Fr0)) (fun s Fr0 => (.blk br (RsC (f3.b.length / 256) s.rL s.cL s.L) 35 :: .row 99 2 s.rL s.L.length s.cL (s.L.flatMap Rv.cells) :: (Fr0 ++ s.T))) (fun s => ks.length - s.k) ⟨0, V, L, rL, cL, T2 ++ T3⟩ (⟨Nat.zero_le _, hrf3, .inl rfl, fun h => by simp at h, fun _ h => h⟩) ⟨rfl, rfl, rfl, rfl, rfl, rfl, rfl, rfl, rfl, rfl, trivial⟩ (sub_tail (A := [_, _, _, _, _, _, _, _, _, _, _, _]) (B := [_, _, _, _, _, _, _, _, _, _, _, _]) (T := (T2 ++ T3)) [7, 8, 0, 1, 2, 3, 4, 5, 6, 9, 10, 11] 12 (by decide) (by decide) rfl rfl) ?_
                            rintro ⟨k, W, L4, rL4, cL4, T4⟩ ⟨hk, hrf4, hW, hWk, hT4⟩
                            simp only at hk hrf4 hW hWk hT4 ⊢
                            refine gc_seq ?_
                            refine gc_seq ?_
                            refine gc_region ?_
                            refine gl_op (op_rd rfl (rd_move rfl) ?_)
                            refine gl_op (op_rd rfl (rd_move rfl) ?_)
                            refine gl_op (op_rd rfl (rd_lenSlice Try.underlying55 rfl) ?_)
                            refine gl_op (op_rd rfl (rd_lss rfl rfl) (gk_dec (fun h174 => ?_) (fun h174 => ?_)))
                            · skip
                              obtain ⟨k0, hki⟩ := get_some (show k < ks.length by omega)
                              refine gl_nil ?_
                              refine gx_then ?_
                              refine gc_cond_t rfl ?_
                              refine gc_skip ?_
                              refine gx_then ?_
                              refine gc_seq ?_
                              refine gc_block ?_
                              refine gc_seq ?_
                              refine gc_region ?_
                              refine gl_op (op_rd rfl (rd_move rfl) ?_)
                              refine gl_op (op_rd rfl (rd_move rfl) ?_)
                              refine gl_op (op_rd rfl (rd_indexRow1 7 rfl Try.underlying55 ty_3 rfl rfl (by omega) (by omega)) ?_)
                              refine gl_op (op_rd rfl (rd_load Try.underlying3 rfl rfl (ld_rowN 7 rfl (get_natsL hki))) ?_)
                              refine gl_op (op_rd rfl (rd_move rfl) ?_)
                              refine gl_op (op_rd rfl (rd_eql rfl rfl) (gk_dec (fun h182 => ?_) (fun h182 => ?_)))
                              · skip
                                obtain rfl : k0 = key := by omega
                                obtain ⟨⟨m4, now⟩, hv2⟩ := Option.isSome_iff_exists.1 (hkiff.1 (List.mem_of_getElem? hki))
                                have hnow : (sgetP ((k0 : Nat) : Int) V2).1 = now := by rw [sget_val (by omega), hv2]; rfl
                                obtain ⟨_, hn16, hn256⟩ := hst3.vals hv2
                                have hfw := fullW (c := 10 * (f3.b.length / 256 - 2)) hst1 hrf4 hW (by rw [hv2]; rfl) (by rw [o5, hF4]; exact hnf)
                                have hnl : (sgetP ((k0 : Nat) : Int) V2).1.length ≤ 16 := by rw [hnow]; exact hn16
                                have hn256b : ∀ z ∈ (sgetP ((k0 : Nat) : Int) V2).1, z < 256 := by rw [hnow]; exact hn256
                                have hLb4 : L4.length ≤ 100000 := by
                                  rcases hW with e | e
                                  · rw [e] at hrf4; have := (same_keys hst1 hrf4).2; omega
                                  · rw [e] at hrf4; have := (same_keys hst3 hrf4).2; omega
                                refine gl_nil ?_
                                refine gx_then ?_
                                refine gc_cond_t rfl ?_
                                refine gc_region ?_
                                refine gl_op (op_rd rfl (rd_move rfl) ?_)
                                refine gl_op (op_rd rfl (rd_move rfl) ?_)
                                refine gl_op (op_rd rfl (rd_move rfl) ?_)
                                refine gl_op (op_callMT [_, _, _, _, _, _, _, _, _, _, _, _] T4 [0, 1] [2, 3, 4, 5, 6, 7, 8, 9, 10, 11] 12 rfl rfl rfl (vf := []) (vc := []) rfl rfl Try.call18 (by decide) (by decide) rfl (fun w how hc => rPut_go L4 br (f3.b.length / 256) rL4 cL4 (by omega) _ w hc (by omega) (by omega) k0 (sgetP ((k0 : Nat) : Int) V2).1 (rowA rg) cg (rowOut how 8 [0, 1] rfl (by decide)) (by omega) (rput_go hrf4 (by omega) (by omega) hfw)) ?_)
                                rintro _ _ ⟨rw, cw, rL5, cL5, L5, rfl, hins, rfl⟩
                                have hrf5 := rs_put (num := m4) (x := ⟨k0, (sgetP ((k0 : Nat) : Int) V2).1, rw, cw⟩) hrf4 hins rfl (by omega) hnl hn256b (T' := HL.row 5 1 rw (sgetP ((k0 : Nat) : Int) V2).1.length cw ((sgetP ((k0 : Nat) : Int) V2).1.map u8V) :: T4) (fun y hy => List.mem_cons_of_mem _ hy) List.mem_cons_self
                                rw [show updV W k0 m4 (Rv.val ⟨k0, (sgetP ((k0 : Nat) : Int) V2).1, rw, cw⟩) = V2 by simp only; rw [hnow]; exact updW hW hrel hv2] at hrf5
                                refine gl_nil ?_
                                refine gx_block ?_
                                refine gx_then ?_
                                refine gc_region ?_
                                refine gl_op (op_rd rfl (rd_move rfl) ?_)
                                refine gl_op (op_rd rfl (by first | exact rd_addN (b := 1) rfl rfl (by omega) | exact rd_add rfl rfl (by omega) (by omega)) ?_)
                                refine gl_op (op_rd rfl (rd_assign rfl) ?_)
                                refine gl_nil ?_
                                refine gx_then ?_
                                exact gx_cut (⟨k + 1, V2, L5, rL5, cL5, HL.row 5 1 rw (sgetP ((k0 : Nat) : Int) V2).1.length cw ((sgetP ((k0 : Nat) : Int) V2).1.map u8V) :: T4⟩) ⟨⟨by simp only; omega, hrf5, .inr rfl, fun _ => rfl, fun y hy => List.mem_cons_of_mem _ (hT4 y hy)⟩, by simp only; omega⟩ ⟨rfl, rfl, rfl, rfl, rfl, rfl, rfl, rfl, rfl, rfl, trivial⟩ (sub_tail (A := [_, _, _, _, _, _, _, _, _, _, _, _, _]) (B := [_, _, _, _, _, _, _, _, _, _, _, _, _]) (T := T4) [0, 1, 3, 4, 5, 6, 7, 8, 9, 10, 11, 12, 2] 13 (by decide) (by decide) rfl rfl)
                              · skip
                                refine gl_nil ?_
                                refine gx_then ?_
                                refine gc_cond_f rfl ?_
                                refine gc_skip ?_
                                refine gx_block ?_
                                refine gx_then ?_
                                refine gc_region ?_
                                refine gl_op (op_rd rfl (rd_move rfl) ?_)
                                refine gl_op (op_rd rfl (by first | exact rd_addN (b := 1) rfl rfl (by omega) | exact rd_add rfl rfl (by omega) (by omega)) ?_)
                                refine gl_op (op_rd rfl (rd_assign rfl) ?_)
                                refine gl_nil ?_
                                refine gx_then ?_
                                exact gx_cut (⟨k + 1, W, L4, rL4, cL4, T4⟩) ⟨⟨by simp only; omega, hrf4, hW, fun h => by rcases mem_take_succ hki h with h | h; exact hWk h; exact absurd h.symm (fun e => h182 (by omega)), hT4⟩, by simp only; omega⟩ ⟨rfl, rfl, rfl, rfl, rfl, rfl, rfl, rfl, rfl, rfl, trivial⟩ (sub_tail (A := [_, _, _, _, _, _, _, _, _, _, _, _]) (B := [_, _, _, _, _, _, _, _, _, _, _, _]) (T := T4) [0, 1, 2, 3, 4, 5, 6, 7, 8, 9, 10, 11] 12 (by decide) (by decide) rfl rfl)
                            · skip
                              refine gl_nil ?_
                              refine gx_then ?_
                              refine gc_cond_f rfl ?_
                              refine gc_exit ?_
                              refine gx_then_exit ?_
                              refine gx_then_exit ?_
                              refine gx_block_exit ?_
                              refine gx_then ?_
                              refine gc_seq ?_
                              obtain rfl : k = ks.length := by omega
                              rw [List.take_length] at hWk
                              have hWV := endW hW hrel hWk hkiff
                              rw [hWV] at hrf4
                              have hst4 : StOk f3 id3 m3 nb3 T4 num3 fb3 V2 := hst3.mono hT4
                              refine gc_region ?_
                              refine gl_op (op_rd rfl (rd_move rfl) ?_)
                              refine gl_op (op_rd rfl (rd_move rfl) ?_)
                              refine gl_op (op_callMW [_, _, _, _, _, _, _, _, _, _, _, _] T4 [2, 3, 4, 5, 6, 0, 1] [7, 8, 9, 10, 11] 12 rfl rfl rfl (vf := []) (vc := []) rfl rfl Try.call14 (by decide) (by decide) rfl (fun w how hc => all_ok f3 bs3 bf rb cb rp3 cp3 id3 bm3 num3 fb3 m3 nb3 T4 V2 hst4 L4 br rL4 cL4 hrf4 _ w hc) ?_)
                              rintro _ _ ⟨rfl, rfl⟩
                              refine gk_mid [_, _, _, _, _, _, _] T4 [_, _, _, _, _] ?_
                              refine gl_op (op_rd rfl (rd_not rfl) ?_)
                              refine gl_nil ?_
                              refine gx_then ?_
                              refine gc_cond_f rfl ?_
                              refine gc_skip ?_
                              refine gx_block ?_
                              refine gx_then ?_
                              refine gc_region ?_
                              refine gl_op (op_rd rfl (rd_move rfl) ?_)
                              refine gl_op (op_rd rfl (by first | exact rd_addN (b := 1) rfl rfl (by omega) | exact rd_add rfl rfl (by omega) (by omega)) ?_)
                              refine gl_op (op_rd rfl (rd_assign rfl) ?_)
                              refine gl_nil ?_
                              refine gx_then ?_
                              have q1 : f3.er ≤ 4 * (j + 1) + 1 := by omega
                              have q2 : f3.pr ≤ 100000 * (j + 1) := by rw [Nat.mul_succ]; omega
                              have q3 : f3.st ≤ 2 * (j + 1) + 1 := by omega
                              have q4 : num3 ≤ j + 1 := by omega
                              have q5 : j + 1 ≤ l.length := by omega
                              have q6 : l.length - (j + 1) < l.length - j := by omega
                              have q7 : f3.b.length = 256 * n := by omega
                              exact gx_cut (⟨j + 1, rp3, cp3, bs3, bm3, id3, num3, fb3, f3, m3, nb3, T4, V2, L4, rL4, cL4⟩) ⟨⟨q5, hst4, hrf4, hO.left, q7, q1, q2, q3, q4⟩, q6⟩ ⟨rfl, rfl, rfl, rfl, rfl, rfl, trivial⟩ (sub_tail (A := [_, _, _, _, _, _, _]) (B := [_, _, _, _, _, _, _, _, _, _, _, _]) (T := T4) [0, 1, 2, 3, 4, 5, 6] 12 (by decide) (by decide) rfl rfl)
                      · skip
                        exact absurd rfl h127
            · skip
              refine gl_nil ?_
              refine gx_then ?_
              refine gc_cond_f rfl ?_
              refine gc_exit ?_
              refine gx_then_exit ?_
              refine gx_then_exit ?_
              refine gx_block_exit ?_
              refine gx_then ?_
              refine gc_seq ?_
              refine gc_region ?_
              refine gl_op (op_rd rfl (rd_move rfl) ?_)
              refine gl_op (op_rd rfl (rd_move rfl) ?_)
              refine gl_op (op_callMW [_, _, _, _, _, _, _] T [0, 1, 2, 3, 4, 5, 6] [] 7 rfl rfl rfl (vf := []) (vc := []) rfl rfl Try.call14 (by decide) (by decide) rfl (fun w how hc => all_ok f bs bf rb cb rp cp id bm num fb m nb T V hst L br rL cL hrf _ w hc) ?_)
              rintro _ _ ⟨rfl, rfl⟩
              refine gk_mid [_, _, _, _, _, _, _] T [] ?_
              refine gl_op (op_rd rfl (rd_move rfl) ?_)
              refine gl_yes rfl rfl (op_call rfl (vf := []) (vc := []) rfl rfl Try.call9 (fun w1 ho => shown_ok w1) ?_)
              rintro _ _ ⟨rfl, rfl⟩
              refine gl_op (op_rd rfl (rd_pick_t rfl rfl) ?_)
              refine gl_op (op_rd rfl (rd_assign rfl) ?_)
              refine gl_nil ?_
              refine gx_then ?_
              refine gc_ret ?_
              refine gx_ret1S (.inl rfl) Try.results4 rfl (sub_drop (A := []) (B := [_, _, _, _, _, _, _]) (T := T) [] 7 (by decide) (by decide) rfl rfl) ?_
              exact ⟨rfl, rfl⟩
      · skip
        exact absurd hfr.left hT.no

theorem StoreSurvives_okI (b : Int) (hb : 0 ≤ b ∧ b < 256) (l : List Sloss) (a : Option Addr) (ca : Nat) (w0 : World) (hsl : OldSl w0 [] a l.length 6 (l.flatMap Sloss.cells)) (hlen : l.length ≤ 140737488355328) (hin : ∀ g ∈ l, g.In w0 []) : Sp Try.prog 4 [.int .u8 b, .slice a l.length ca] w0 [] (RV (.bool true)) := by
  have h := StoreSurvives_ok b.toNat (by omega) l a ca w0 hsl hlen hin
  rwa [Int.toNat_of_nonneg hb.1] at h

end Go.Proofs.Ythcbcdjkfefnlaa
