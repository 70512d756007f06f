import Derived.Test.YthcbcdjkfefnlaaSd
/- The walks of clean and Put in general. -/
set_option linter.unusedSimpArgs false
set_option linter.unusedVariables false
set_option linter.unnecessarySimpa false
set_option autoImplicit false
set_option linter.unusedVariables false
namespace Go.Proofs.Ythcbcdjkfefnlaa
open Go.Gv
open Go.RowKit
open Iv
namespace Iv
def cntE (P : List En) (k : Nat) : Nat := P.countP fun x => decide (x.bk = k)
def cntL (P : List En) (n : Nat) : List Nat := (List.range n).map (cntE P)
theorem cntL_len (P : List En) (n : Nat) : (cntL P n).length = n := by simp [cntL]
theorem cntL_nil (n : Nat) : cntL [] n = List.replicate n 0 := by
  apply List.ext_getElem
  · simp [cntL]
  · intro i h1 h2; simp [cntL, cntE]
theorem cnt_get {P : List En} {n k : Nat} (h : k < n) : ((cntL P n).map natV)[k]? = some (natV (cntE P k)) := by simp [cntL, h]
theorem cnt_snoc (P : List En) (y : En) (n : Nat) (h : y.bk < n) : (cntL P n).set y.bk (cntE P y.bk + 1) = cntL (P ++ [y]) n := by
  apply List.ext_getElem
  · simp [cntL]
  · intro i h1 h2
    rw [List.getElem_set]
    simp only [cntL, List.getElem_map, List.getElem_range, cntE, List.countP_append, List.countP_singleton]
    by_cases e : y.bk = i
    · rw [if_pos e, e]; simp
    · rw [if_neg e]; simp [e]
theorem cnt_le (P : List En) (k : Nat) : cntE P k ≤ P.length := List.countP_le_length
theorem cnt_perm {P Q : List En} (h : P.Perm Q) (k : Nat) : cntE P k = cntE Q k := h.countP_eq _
theorem plain_perm {m ds : List (ME He)} (h : m.Perm ds) : (plain m).Perm (plain ds) := List.Perm.map (fun x : ME He => x.v.en) h
def mvStep (fb v : Nat) (s : (Fl × List En) × Nat × Int) (k : Nat) : (Fl × List En) × Nat × Int :=
  if s.2.2 ≠ 0 then s else match pget k s.1.2 with
  | none => s
  | some x => if x.bk ≠ v then s else
    if (writeP s.1.1 (fb * 256 + s.2.1 * 24) (packP x.key x.num x.val)).2 ≠ 0 then (((writeP s.1.1 (fb * 256 + s.2.1 * 24) (packP x.key x.num x.val)).1, s.1.2), s.2.1, (writeP s.1.1 (fb * 256 + s.2.1 * 24) (packP x.key x.num x.val)).2)
    else (((writeP s.1.1 (fb * 256 + s.2.1 * 24) (packP x.key x.num x.val)).1, pput ⟨x.key, x.num, x.val, fb, s.2.1⟩ s.1.2), s.2.1 + 1, 0)
def mvTo (fb v : Nat) (ks : List Nat) (f : Fl) (P : List En) (i : Nat) : (Fl × List En) × Nat × Int := (ks.take i).foldl (mvStep fb v) ((f, P), 0, 0)
theorem mv_succ {fb v : Nat} {ks : List Nat} {f : Fl} {P : List En} {i k : Nat} (h : ks[i]? = some k) : mvTo fb v ks f P (i + 1) = mvStep fb v (mvTo fb v ks f P i) k := by
  unfold mvTo
  rw [take_at h, List.foldl_append]; rfl
theorem mv_stayL {fb v : Nat} : ∀ (l : List Nat) {s : (Fl × List En) × Nat × Int}, s.2.2 ≠ 0 → l.foldl (mvStep fb v) s = s
  | [], _, _ => rfl
  | k :: l, s, h => by
    rw [List.foldl_cons, show mvStep fb v s k = s by unfold mvStep; rw [if_pos h]]
    exact mv_stayL l h
theorem mv_stay {fb v : Nat} {ks : List Nat} {f : Fl} {P : List En} {i : Nat} (h : (mvTo fb v ks f P i).2.2 ≠ 0) : mvTo fb v ks f P ks.length = mvTo fb v ks f P i := by
  have e : ks.take ks.length = ks.take i ++ (ks.drop i) := by rw [List.take_length, List.take_append_drop]
  unfold mvTo at h ⊢
  rw [e, List.foldl_append]
  exact mv_stayL _ h
def CleanOut (f : Fl) (P : List En) (fb : Nat) (e : Int) (f' : Fl) (P' : List En) (fb' : Nat) : Prop :=
  ∃ v, v < f.b.length / 256 ∧ v ≠ fb ∧ (∀ i, i < f.b.length / 256 → i ≠ fb → cntE P v ≤ cntE P i) ∧
   ((10 ≤ cntE P v ∧ e = 6 ∧ f' = f ∧ P' = P ∧ fb' = fb) ∨
    (cntE P v < 10 ∧ (((mvTo fb v (keysP P) f P (keysP P).length).2.2 ≠ 0 ∧ e = (mvTo fb v (keysP P) f P (keysP P).length).2.2 ∧ f' = (mvTo fb v (keysP P) f P (keysP P).length).1.1 ∧ P' = (mvTo fb v (keysP P) f P (keysP P).length).1.2 ∧ fb' = fb) ∨
      ((mvTo fb v (keysP P) f P (keysP P).length).2.2 = 0 ∧ f' = (flErase (mvTo fb v (keysP P) f P (keysP P).length).1.1 (v : Int)).1 ∧ e = (flErase (mvTo fb v (keysP P) f P (keysP P).length).1.1 (v : Int)).2 ∧ P' = (mvTo fb v (keysP P) f P (keysP P).length).1.2 ∧ fb' = if e ≠ 0 then fb else v))))
theorem pput_keys {x : En} : ∀ {P : List En}, (pget x.key P).isSome = true → (pput x P).map En.key = P.map En.key
  | [], h => by cases h
  | y :: l, h => by
    unfold pget at h
    unfold pput
    by_cases e : x.key = y.key
    · rw [if_pos e]; simp [e]
    · rw [if_neg e] at h ⊢
      simp [pput_keys h]
theorem pget_mem {k : Nat} : ∀ {P : List En}, k ∈ P.map En.key → (pget k P).isSome = true
  | [], h => by cases h
  | y :: l, h => by
    unfold pget
    by_cases e : k = y.key
    · rw [if_pos e]; rfl
    · rw [if_neg e]
      rcases List.mem_cons.1 h with h | h
      · exact absurd h e
      · exact pget_mem h
theorem cnt_put {x z : En} {v : Nat} (hxv : x.bk = v) (hz : z.bk ≠ v) : ∀ {P : List En}, pget z.key P = some x → cntE (pput z P) v + 1 = cntE P v
  | [], h => by cases h
  | y :: l, h => by
    unfold pget at h
    unfold pput
    by_cases e : z.key = y.key
    · rw [if_pos e] at h ⊢
      cases h
      simp [cntE, List.countP_cons, hxv, hz]
    · rw [if_neg e] at h ⊢
      have := cnt_put hxv hz h
      simp only [cntE, List.countP_cons] at this ⊢
      omega
theorem flFails_er (f : Fl) : (flFails f).er = f.er := (flFails_st f).2.2
theorem prog_er2 (g : Fl) (a : Int) (u : Nat) : (flProg g a u).1.er = g.er := by
  unfold flProg
  split
  · rfl
  · unfold flProg1
    split <;> exact flFails_er { g with pr := g.pr + 1 }
theorem wr_er (f : Fl) (o : Nat) (bs : List Nat) : ∀ k, (wrTo f o bs k).1.er = f.er
  | 0 => rfl
  | k + 1 => by
    have ih := wr_er f o bs k
    rw [wr_succ]
    unfold wrStep
    split
    · exact ih
    · split
      · exact ih
      · rw [prog_er2]; exact ih
theorem has_key {m : List (ME He)} {nb : Nat} {T : List HL} (h : MSt m nb T) {k : Nat} (hk : k ∈ (plain m).map En.key) : ∃ x, mget (k : Int) m = some x := by
  have h1 := pget_mem hk
  rw [pget_m k h.key, Option.isSome_map] at h1
  exact Option.isSome_iff_exists.1 h1
theorem keysP_mem {P : List En} {k : Nat} (h : k ∈ keysP P) : k ∈ P.map En.key := (srt_perm _).mem_iff.1 h
theorem get_natsL {xs : List Nat} {i k : Nat} (h : xs[i]? = some k) : (xs.map natV)[i]? = some (natV k) := by rw [List.getElem?_map, h]; rfl
end Iv

set_option maxRecDepth 100000 in
set_option maxHeartbeats 8000000 in
theorem clean_ok (f : Fl) (hf : f.Ok) (bs bf : Nat) (rb : Option Nat) (cb : Nat) (rp : Option Nat) (cp : Nat) (id bm num : Nat) (fb : Nat) (m : List (ME He)) (nb : Nat) (T : List HL) (hms : MSt m nb T) (S : List Nat) (w0 : World) (hown : Own w0 S w0 (.blk bs [.bool true, .pointer (some ⟨bf, 0, none⟩), natV id, .map (some bm), .int .u32 ((num : Nat) : Int), .int .i64 ((fb : Nat) : Int)] 81 :: .obj bm (mapO HV m nb) :: (FlH bf rb cb rp cp f ++ T))) (hml : m.length ≤ 1000000) (hfb : fb < f.b.length / 256) (hbn : ∀ x ∈ m, x.v.en.bk < f.b.length / 256) (hpr : f.pr + 24 * m.length + 24 < 4611686018427387904) (her : f.er + 1 < 4611686018427387904) : Sp Try.prog 49 [.pointer (some ⟨bs, 0, none⟩)] w0 S (fun v L => ∃ (e : Int) (f2 : Fl) (m2 : List (ME He)) (nb2 fb2 : Nat), v = .int .i64 e ∧ CleanOut f (plain m) fb e f2 (plain m2) fb2 ∧ MSt m2 nb2 T ∧ f2.Ok ∧ f2.b.length = f.b.length ∧ f2.pr ≤ f.pr + 24 * m.length ∧ L = (.blk bs [.bool true, .pointer (some ⟨bf, 0, none⟩), natV id, .map (some bm), .int .u32 ((num : Nat) : Int), .int .i64 ((fb2 : Nat) : Int)] 81 :: .obj bm (mapO HV m2 nb2) :: (FlH bf rb cb rp cp f2 ++ T))) := by
  have hbl := hf.hi
  have hbl0 := hf.lo
  have hblm := hf.len
  refine spec_enter Try.func49 rfl Try.ntmps49 rfl hown ?_
  simp only [argEnv]
  refine gc_seq ?_
  refine gc_region ?_
  refine gl_op (op_rd rfl (rd_assign rfl) ?_)
  refine gl_nil ?_
  refine gx_then ?_
  refine gc_seq ?_
  refine gc_region ?_
  refine gl_op (op_rd rfl (rd_move rfl) ?_)
  refine gl_op (op_rd rfl (rd_nilCheck rfl) ?_)
  refine gl_op (op_rd rfl (rd_fieldAddr rfl (fa_81_1 _)) ?_)
  refine gl_op (op_rd rfl (rd_load Try.underlying25 rfl rfl (by first | exact ld_blk 0 rfl rfl | exact ld_blk 2 rfl rfl | exact ld_old (by assumption) (by simp) | exact ld_cells (by assumption) (by simp) rfl)) ?_)
  refine gl_op (op_call rfl (vf := []) (vc := []) rfl rfl Try.call33 (fun w1 ho => Blocks_q f hf bf rb cb rp cp w1 (ho.blkCells 2 rfl)) ?_)
  rintro _ _ ⟨rfl, rfl⟩
  refine gl_op (op_makeSlice (f.b.length / 256) Try.underlying55 ty_3 rfl rfl rfl (by omega) (by omega) (by omega) (by omega) (fun b20 => ?_))
  refine gl_op (op_rd rfl (rd_assign rfl) ?_)
  refine gl_nil ?_
  refine gx_then ?_
  refine gc_seq ?_
  refine gc_seq ?_
  rw [made_one _ rfl, show List.replicate (f.b.length / 256) (Value.int .i64 0) = (cntL (plain []) (f.b.length / 256)).map natV by rw [show plain [] = [] from rfl, cntL_nil]; simp]
  refine gc_region ?_
  refine gl_op (op_rd rfl (rd_move rfl) ?_)
  refine gl_op (op_rd rfl (rd_nilCheck rfl) ?_)
  refine gl_op (op_rd rfl (rd_fieldAddr rfl (fa_81_3 _)) ?_)
  refine gl_op (op_rd rfl (rd_load Try.underlying78 rfl rfl (by first | exact ld_blk 1 rfl rfl | exact ld_blk 3 rfl rfl | exact ld_old (by assumption) (by simp) | exact ld_cells (by assumption) (by simp) rfl)) ?_)
  refine gl_op (op_range 2 HV rfl Try.underlying78 rfl rfl (fun r25 => ?_))
  refine gl_nil ?_
  refine gx_then ?_
  refine gc_block ?_
  refine gc_loopF (ι := List (ME He)) [(0, _), (3, _), (25, _)] (_ :: _ :: _ :: _ :: _ :: T) (fun ds => (ds.map ME.born).Nodup ∧ ∀ y ∈ ds, y ∈ m) (fun ds Fr0 => Fr0) (fun ds Fr0 => (.obj r25 (iterO bm nb ds) :: .row 3 1 (some b20) (f.b.length / 256) (f.b.length / 256) ((cntL (plain ds) (f.b.length / 256)).map natV) :: Fr0)) (fun ds => m.length - ds.length) [] (⟨List.nodup_nil, fun _ h => by cases h⟩) ⟨rfl, rfl, rfl, trivial⟩ (sub_tail (A := [_, _, _, _, _, _, _]) (B := [_, _, _, _, _, _, _]) (T := T) [0, 1, 2, 3, 4, 5, 6] 7 (by decide) (by decide) rfl rfl) ?_
  rintro ds ⟨hnd, hsub⟩
  have hdl : ds.length ≤ m.length := sub_len (nodup_of_map hnd) hsub
  refine gc_seq ?_
  refine gc_region ?_
  refine gl_op (op_next 3 0 HV rfl hms.ok hnd hsub rfl rfl rfl (fun hperm => ?_) (fun y hy hyd => ?_))
  · skip
    refine gl_op (op_rd rfl (rd_extract rfl rfl) ?_)
    refine gl_nil ?_
    refine gx_then ?_
    refine gc_seq ?_
    refine gc_cond_f rfl ?_
    refine gc_exit ?_
    refine gx_then_exit ?_
    refine gx_then_exit ?_
    refine gx_block_exit ?_
    refine gx_then ?_
    refine gc_seq ?_
    rw [show cntL (plain ds) (f.b.length / 256) = cntL (plain m) (f.b.length / 256) by unfold cntL; congr 1; funext k; exact (cnt_perm (plain_perm hperm) k).symm]
    refine gc_region ?_
    refine gl_op (op_rd rfl (rd_assign rfl) ?_)
    refine gl_nil ?_
    refine gx_then ?_
    refine gc_seq ?_
    refine gc_seq ?_
    refine gc_region ?_
    refine gl_op (op_rd rfl (rd_move rfl) ?_)
    refine gl_op (op_rd rfl (rd_lenSlice Try.underlying55 rfl) ?_)
    refine gl_op (op_rd rfl (rd_move rfl) ?_)
    refine gl_nil ?_
    refine gx_then ?_
    refine gc_block ?_
    refine gc_loopF (ι := Nat × Int) [(0, _), (3, _), (38, _), (39, _)] (_ :: _ :: _ :: _ :: _ :: _ :: _ :: T) (fun j => j.1 ≤ f.b.length / 256 ∧ ((j.2 = -1 ∧ ∀ i, i < j.1 → i = fb) ∨ ∃ v : Nat, j.2 = (v : Int) ∧ v < j.1 ∧ v ≠ fb ∧ ∀ i, i < j.1 → i ≠ fb → cntE (plain m) v ≤ cntE (plain m) i)) (fun j Fr0 => ((6, .int .i64 j.2) :: (40, natV j.1) :: Fr0)) (fun j Fr0 => Fr0) (fun j => f.b.length / 256 - j.1) (0, -1) (⟨Nat.zero_le _, .inl ⟨rfl, fun i h => absurd h (Nat.not_lt_zero _)⟩⟩) ⟨rfl, rfl, rfl, rfl, rfl, rfl, trivial⟩ (sub_tail (A := [_, _, _, _, _, _, _]) (B := [_, _, _, _, _, _, _]) (T := T) [0, 1, 2, 3, 4, 5, 6] 7 (by decide) (by decide) rfl rfl) ?_
    rintro ⟨k, vi⟩ ⟨hk, hvi⟩
    simp only at hk hvi ⊢
    refine gc_seq ?_
    refine gc_region ?_
    refine gl_op (op_rd rfl (rd_lss rfl rfl) (gk_dec (fun h41 => ?_) (fun h41 => ?_)))
    · skip
      refine gl_nil ?_
      refine gx_then ?_
      refine gc_seq ?_
      refine gc_cond_t rfl ?_
      refine gc_skip ?_
      refine gx_then ?_
      refine gc_seq ?_
      refine gc_block ?_
      refine gc_seq ?_
      refine gc_region ?_
      refine gl_op (op_rd rfl (rd_move rfl) ?_)
      refine gl_op (op_rd rfl (rd_indexRow1 1 rfl Try.underlying55 ty_3 rfl rfl (by omega) (by omega)) ?_)
      refine gl_op (op_rd rfl (rd_load Try.underlying3 rfl rfl (ld_rowN 1 rfl (cnt_get (P := plain m) (show k < f.b.length / 256 by omega)))) ?_)
      refine gl_op (op_rd rfl (rd_assign rfl) ?_)
      refine gl_op (op_rd rfl (rd_assign rfl) ?_)
      refine gl_nil ?_
      refine gx_then ?_
      refine gc_seq ?_
      refine gc_region ?_
      refine gl_op (op_rd rfl (rd_move rfl) ?_)
      refine gl_op (op_rd rfl (rd_move rfl) ?_)
      refine gl_op (op_rd rfl (rd_nilCheck rfl) ?_)
      refine gl_op (op_rd rfl (rd_fieldAddr rfl (fa_81_5 _)) ?_)
      refine gl_op (op_rd rfl (rd_load Try.underlying3 rfl rfl (by first | exact ld_blk 0 rfl rfl | exact ld_blk 2 rfl rfl | exact ld_blk 4 rfl rfl | exact ld_rowN 1 rfl (get_nats (by omega)) | exact ld_rowN 5 rfl (get_nats (by omega)) | exact ld_rowN 6 rfl (get_nats (by omega)) | exact ld_slN (by assumption) (get_nats (by omega)) | exact ld_rowN 1 rfl (get_ints (by omega)) | exact ld_rowN 5 rfl (get_ints (by omega)) | exact ld_rowN 6 rfl (get_ints (by omega)) | exact ld_slN (by assumption) (get_ints (by omega)) | exact ld_old (by assumption) (by simp) | exact ld_cells (by assumption) (by simp) rfl)) ?_)
      refine gl_op (op_rd rfl (rd_neq rfl rfl) (gk_dec (fun h50 => ?_) (fun h50 => ?_)))
      · skip
        refine gl_op (op_rd rfl (rd_move rfl) ?_)
        refine gl_yes rfl rfl (op_rd rfl (rd_move rfl) ?_)
        refine gl_yes rfl rfl (op_rd rfl (rd_lss rfl rfl) (gk_dec (fun h53 => ?_) (fun h53 => ?_)))
        · skip
          refine gl_yes rfl rfl (op_rd rfl (rd_move rfl) ?_)
          refine gl_no rfl rfl rfl ?_
          refine gl_no rfl rfl rfl ?_
          refine gl_no rfl rfl rfl ?_
          refine gl_no rfl rfl rfl ?_
          refine gl_no rfl rfl rfl ?_
          refine gl_no rfl rfl rfl ?_
          refine gl_yes rfl rfl (op_rd rfl (rd_pick_t rfl rfl) ?_)
          refine gl_op (op_rd rfl (rd_pick_t rfl rfl) ?_)
          refine gl_nil ?_
          refine gx_then ?_
          refine gc_cond_t rfl ?_
          refine gc_region ?_
          refine gl_op (op_rd rfl (rd_move rfl) ?_)
          refine gl_op (op_rd rfl (rd_assign rfl) ?_)
          refine gl_nil ?_
          refine gx_block ?_
          refine gx_then ?_
          refine gc_region ?_
          refine gl_op (op_rd rfl (by first | exact rd_addN (b := 1) rfl rfl (by omega) | exact rd_add rfl rfl (by omega) (by omega)) ?_)
          refine gl_op (op_rd rfl (rd_move rfl) ?_)
          refine gl_nil ?_
          refine gx_then ?_
          exact gx_cut ((k + 1, (k : Int))) ⟨⟨by simp only; omega, by simp only; rcases hvi with ⟨h1, h2⟩ | ⟨v, h1, h2, h3, h4⟩; exact .inr ⟨k, rfl, by omega, by omega, fun i hi hne => by rcases (show i < k ∨ i = k by omega) with h | h; exact absurd (h2 i h) hne; rw [h]; exact Nat.le_refl _⟩; omega⟩, by simp only; omega⟩ ⟨rfl, rfl, rfl, rfl, rfl, rfl, trivial⟩ (sub_tail (A := [_, _, _, _, _, _, _]) (B := [_, _, _, _, _, _, _]) (T := T) [0, 1, 2, 3, 4, 5, 6] 7 (by decide) (by decide) rfl rfl)
        · skip
          obtain ⟨v, rfl, hv2, hv3, hv4⟩ : ∃ v : Nat, vi = (v : Int) ∧ v < k ∧ v ≠ fb ∧ ∀ i, i < k → i ≠ fb → cntE (plain m) v ≤ cntE (plain m) i := by
            rcases hvi with ⟨h, _⟩ | h
            · omega
            · exact h
          refine gl_yes rfl rfl (op_rd rfl (rd_move rfl) ?_)
          refine gl_yes rfl rfl (op_rd rfl (rd_move rfl) ?_)
          refine gl_yes rfl rfl (op_rd rfl (rd_move rfl) ?_)
          refine gl_yes rfl rfl (op_rd rfl (rd_move rfl) ?_)
          refine gl_yes rfl rfl (op_rd rfl (rd_indexRow1 1 rfl Try.underlying55 ty_3 rfl rfl (by omega) (by omega)) ?_)
          refine gl_yes rfl rfl (op_rd rfl (rd_load Try.underlying3 rfl rfl (ld_rowN 1 rfl (cnt_get (P := plain m) (show v < f.b.length / 256 by omega)))) ?_)
          refine gl_yes rfl rfl (op_rd rfl (rd_lss rfl rfl) (gk_dec (fun h60 => ?_) (fun h60 => ?_)))
          · skip
            refine gl_yes rfl rfl (op_rd rfl (rd_pick_f rfl rfl) ?_)
            refine gl_op (op_rd rfl (rd_pick_t rfl rfl) ?_)
            refine gl_nil ?_
            refine gx_then ?_
            refine gc_cond_t rfl ?_
            refine gc_region ?_
            refine gl_op (op_rd rfl (rd_move rfl) ?_)
            refine gl_op (op_rd rfl (rd_assign rfl) ?_)
            refine gl_nil ?_
            refine gx_block ?_
            refine gx_then ?_
            refine gc_region ?_
            refine gl_op (op_rd rfl (by first | exact rd_addN (b := 1) rfl rfl (by omega) | exact rd_add rfl rfl (by omega) (by omega)) ?_)
            refine gl_op (op_rd rfl (rd_move rfl) ?_)
            refine gl_nil ?_
            refine gx_then ?_
            exact gx_cut ((k + 1, (k : Int))) ⟨⟨by simp only; omega, .inr ⟨k, rfl, by simp only; omega, by omega, fun i hi hne => by simp only at hi; rcases (show i < k ∨ i = k by omega) with h | h; have := hv4 i h hne; omega; rw [h]; exact Nat.le_refl _⟩⟩, by simp only; omega⟩ ⟨rfl, rfl, rfl, rfl, rfl, rfl, trivial⟩ (sub_tail (A := [_, _, _, _, _, _, _]) (B := [_, _, _, _, _, _, _]) (T := T) [0, 1, 2, 3, 4, 5, 6] 7 (by decide) (by decide) rfl rfl)
          · skip
            refine gl_yes rfl rfl (op_rd rfl (rd_pick_f rfl rfl) ?_)
            refine gl_op (op_rd rfl (rd_pick_t rfl rfl) ?_)
            refine gl_nil ?_
            refine gx_then ?_
            refine gc_cond_f rfl ?_
            refine gc_skip ?_
            refine gx_block ?_
            refine gx_then ?_
            refine gc_region ?_
            refine gl_op (op_rd rfl (by first | exact rd_addN (b := 1) rfl rfl (by omega) | exact rd_add rfl rfl (by omega) (by omega)) ?_)
            refine gl_op (op_rd rfl (rd_move rfl) ?_)
            refine gl_nil ?_
            refine gx_then ?_
            exact gx_cut ((k + 1, (v : Int))) ⟨⟨by simp only; omega, .inr ⟨v, rfl, by simp only; omega, hv3, fun i hi hne => by simp only at hi; rcases (show i < k ∨ i = k by omega) with h | h; exact hv4 i h hne; rw [h]; omega⟩⟩, by simp only; omega⟩ ⟨rfl, rfl, rfl, rfl, rfl, rfl, trivial⟩ (sub_tail (A := [_, _, _, _, _, _, _]) (B := [_, _, _, _, _, _, _]) (T := T) [0, 1, 2, 3, 4, 5, 6] 7 (by decide) (by decide) rfl rfl)
      · skip
        refine gl_op (op_rd rfl (rd_move rfl) ?_)
        refine gl_no rfl rfl rfl ?_
        refine gl_no rfl rfl rfl ?_
        refine gl_no rfl rfl rfl ?_
        refine gl_noU rfl rfl rfl ?_
        refine gl_noU rfl rfl rfl ?_
        refine gl_noU rfl rfl rfl ?_
        refine gl_noU rfl rfl rfl ?_
        refine gl_noU rfl rfl rfl ?_
        refine gl_noU rfl rfl rfl ?_
        refine gl_no rfl rfl rfl ?_
        refine gl_op (op_rd rfl (rd_pick_f rfl rfl) ?_)
        refine gl_nil ?_
        refine gx_then ?_
        refine gc_cond_f rfl ?_
        refine gc_skip ?_
        refine gx_block ?_
        refine gx_then ?_
        refine gc_region ?_
        refine gl_op (op_rd rfl (by first | exact rd_addN (b := 1) rfl rfl (by omega) | exact rd_add rfl rfl (by omega) (by omega)) ?_)
        refine gl_op (op_rd rfl (rd_move rfl) ?_)
        refine gl_nil ?_
        refine gx_then ?_
        exact gx_cut ((k + 1, vi)) ⟨⟨by simp only; omega, by simp only; rcases hvi with ⟨h1, h2⟩ | ⟨v, h1, h2, h3, h4⟩; exact .inl ⟨h1, fun i hi => by rcases (show i < k ∨ i = k by omega) with h | h; exact h2 i h; omega⟩; exact .inr ⟨v, h1, by omega, h3, fun i hi hne => by rcases (show i < k ∨ i = k by omega) with h | h; exact h4 i h hne; omega⟩⟩, by simp only; omega⟩ ⟨rfl, rfl, rfl, rfl, rfl, rfl, trivial⟩ (sub_tail (A := [_, _, _, _, _, _, _]) (B := [_, _, _, _, _, _, _]) (T := T) [0, 1, 2, 3, 4, 5, 6] 7 (by decide) (by decide) rfl rfl)
    · skip
      refine gl_nil ?_
      refine gx_then ?_
      refine gc_seq ?_
      refine gc_cond_f rfl ?_
      refine gc_exit ?_
      refine gx_then_exit ?_
      refine gx_then_exit ?_
      refine gx_block_exit ?_
      refine gx_then ?_
      refine gc_seq ?_
      refine gc_seq ?_
      obtain ⟨v, rfl, hv2, hv3, hv4⟩ : ∃ v : Nat, vi = (v : Int) ∧ v < k ∧ v ≠ fb ∧ ∀ i, i < k → i ≠ fb → cntE (plain m) v ≤ cntE (plain m) i := by
        rcases hvi with ⟨_, h⟩ | h
        · have h1 := h 0 (by omega)
          have h2 := h 1 (by omega)
          omega
        · exact h
      have hke : k = f.b.length / 256 := by omega
      clear hvi
      refine gc_region ?_
      refine gl_op (op_rd rfl (rd_move rfl) ?_)
      refine gl_op (op_rd rfl (rd_move rfl) ?_)
      refine gl_op (op_rd rfl (rd_indexRow1 1 rfl Try.underlying55 ty_3 rfl rfl (by omega) (by omega)) ?_)
      refine gl_op (op_rd rfl (rd_load Try.underlying3 rfl rfl (ld_rowN 1 rfl (cnt_get (P := plain m) (show v < f.b.length / 256 by omega)))) ?_)
      refine gl_op (op_rd rfl (rd_geq rfl rfl) (gk_dec (fun h69 => ?_) (fun h69 => ?_)))
      · skip
        refine gl_nil ?_
        refine gx_then ?_
        refine gc_cond_t rfl ?_
        refine gc_seq ?_
        refine gc_region ?_
        refine gl_op (op_rd rfl (rd_assign rfl) ?_)
        refine gl_nil ?_
        refine gx_then ?_
        refine gc_ret ?_
        refine gx_then_ret ?_
        refine gx_ret1S (.inl rfl) Try.results49 rfl (sub_tail (A := [_, _, _, _, _]) (B := [_, _, _, _, _, _, _]) (T := T) [2, 3, 4, 5, 6] 7 (by decide) (by decide) rfl rfl) ?_
        exact ⟨6, f, m, nb, fb, rfl, ⟨v, by omega, hv3, fun i hi hne => hv4 i (by omega) hne, .inl ⟨by omega, rfl, rfl, rfl, rfl⟩⟩, hms, hf, rfl, Nat.le_add_right _ _, rfl⟩
      · skip
        refine gl_nil ?_
        refine gx_then ?_
        refine gc_cond_f rfl ?_
        refine gc_skip ?_
        refine gx_then ?_
        refine gc_seq ?_
        refine gc_region ?_
        refine gl_op (op_rd rfl (rd_move rfl) ?_)
        refine gl_op (op_rd rfl (rd_nilCheck rfl) ?_)
        refine gl_op (op_rd rfl (rd_fieldAddr rfl (fa_81_5 _)) ?_)
        refine gl_op (op_rd rfl (rd_load Try.underlying3 rfl rfl (by first | exact ld_blk 0 rfl rfl | exact ld_blk 2 rfl rfl | exact ld_blk 4 rfl rfl | exact ld_rowN 1 rfl (get_nats (by omega)) | exact ld_rowN 5 rfl (get_nats (by omega)) | exact ld_rowN 6 rfl (get_nats (by omega)) | exact ld_slN (by assumption) (get_nats (by omega)) | exact ld_rowN 1 rfl (get_ints (by omega)) | exact ld_rowN 5 rfl (get_ints (by omega)) | exact ld_rowN 6 rfl (get_ints (by omega)) | exact ld_slN (by assumption) (get_ints (by omega)) | exact ld_old (by assumption) (by simp) | exact ld_cells (by assumption) (by simp) rfl)) ?_)
        refine gl_op (op_rd rfl (rd_build rfl (fun _ => bd_94_0 _)) ?_)
        refine gl_op (op_alloc ty_94 rfl rfl (fun b9 => ?_))
        first | refine gl_op (op_storeAgg 0 ty_94 rfl rfl rfl rfl rfl rfl (by first | rfl | (simp only [List.set_cons_succ, List.set_cons_zero]; exact rfl)) ?_) | refine gl_op (op_storeAgg 1 ty_94 rfl rfl rfl rfl rfl rfl (by first | rfl | (simp only [List.set_cons_succ, List.set_cons_zero]; exact rfl)) ?_) | refine gl_op (op_storeAgg 3 ty_94 rfl rfl rfl rfl rfl rfl (by first | rfl | (simp only [List.set_cons_succ, List.set_cons_zero]; exact rfl)) ?_) | refine gl_op (op_storeAgg 5 ty_94 rfl rfl rfl rfl rfl rfl (by first | rfl | (simp only [List.set_cons_succ, List.set_cons_zero]; exact rfl)) ?_) | refine gl_op (op_storeRowAgg 2 ty_94 rfl rfl rfl rfl rfl (by simp; omega) (by first | rfl | (simp only [List.set_cons_succ, List.set_cons_zero]; exact rfl)) ?_) | refine gl_op (op_storeRowAgg 6 ty_94 rfl rfl rfl rfl rfl (by simp; omega) (by first | rfl | (simp only [List.set_cons_succ, List.set_cons_zero]; exact rfl)) ?_) | refine gl_op (op_storeRowAgg 7 ty_94 rfl rfl rfl rfl rfl (by simp; omega) (by first | rfl | (simp only [List.set_cons_succ, List.set_cons_zero]; exact rfl)) ?_)
        refine gl_nil ?_
        refine gx_then ?_
        refine gc_seq ?_
        refine gc_seq ?_
        refine gc_region ?_
        refine gl_op (op_rd rfl (rd_move rfl) ?_)
        refine gl_op (op_callMT [_, _, _, _, _, _, _, _] T [3, 4, 5, 6, 7] [0, 1, 2] 8 rfl rfl rfl (vf := []) (vc := []) rfl rfl Try.call53 (by decide) (by decide) rfl (fun w how hc => keys_ok f hf bs bf rb cb rp cp id bm num fb m nb T hms _ w hc hml) ?_)
        rintro _ _ ⟨rk, ck, rfl, rfl⟩
        refine gl_op (op_rd rfl (rd_lenSlice Try.underlying55 rfl) ?_)
        refine gl_op (op_rd rfl (rd_move rfl) ?_)
        refine gl_nil ?_
        refine gx_then ?_
        refine gc_block ?_
        refine gc_loopF (ι := Nat × Nat × Fl × List (ME He) × Nat) [(0, _), (6, _), (9, _), (76, _), (77, _)] (_ :: _ :: _ :: _ :: T) (fun j => j.1 ≤ (keysP (plain m)).length ∧ mvTo fb v (keysP (plain m)) f (plain m) j.1 = ((j.2.2.1, plain j.2.2.2.1), j.2.1, 0) ∧ MSt j.2.2.2.1 j.2.2.2.2 T ∧ j.2.2.1.Ok ∧ j.2.2.1.b.length = f.b.length ∧ j.2.2.1.pr ≤ f.pr + 24 * j.1 ∧ j.2.2.1.er = f.er ∧ cntE (plain j.2.2.2.1) v + j.2.1 = cntE (plain m) v ∧ (plain j.2.2.2.1).map En.key = (plain m).map En.key) (fun j Fr0 => ((78, natV j.1) :: Fr0)) (fun j Fr0 => (.blk b9 [natV fb, natV j.2.1] 94 :: .obj bm (mapO HV j.2.2.2.1 j.2.2.2.2) :: .blk bf (j.2.2.1.cells rb cb rp cp) 72 :: .row 5 1 rb j.2.2.1.b.length cb (j.2.2.1.b.map u8V) :: .row 5 1 rp j.2.2.1.picks.length cp (j.2.2.1.picks.map u8V) :: Fr0)) (fun j => (keysP (plain m)).length - j.1) (0, 0, f, m, nb) (⟨Nat.zero_le _, rfl, hms, hf, rfl, Nat.le_refl _, rfl, rfl, rfl⟩) ⟨rfl, rfl, rfl, rfl, rfl, rfl, trivial⟩ (sub_tail (A := [_, _, _, _, _, _, _, _, _]) (B := [_, _, _, _, _, _, _, _, _]) (T := T) [6, 1, 2, 3, 4, 0, 5, 7, 8] 9 (by decide) (by decide) rfl rfl) ?_
        rintro ⟨i, sl, g, m2, nb2⟩ ⟨hi, hmv, hm2, hg, hgl, hgp, hger, hcn, hkeys⟩
        simp only at hi hmv hm2 hg hgl hgp hger hcn hkeys ⊢
        have hkl := keysP_len (plain m)
        have hpml : (plain m).length = m.length := by simp [plain]
        have hcv := cnt_le (plain m) v
        refine gc_seq ?_
        refine gc_region ?_
        refine gl_op (op_rd rfl (rd_lss rfl rfl) (gk_dec (fun h79 => ?_) (fun h79 => ?_)))
        · skip
          obtain ⟨k0, hk⟩ := get_some (show i < (keysP (plain m)).length by omega)
          obtain ⟨x, hgx⟩ := has_key hm2 (show k0 ∈ (plain m2).map En.key by rw [hkeys]; exact keysP_mem (List.mem_of_getElem? hk))
          obtain ⟨hxe, hxr, hxk, hpg⟩ := hm2.get hgx
          subst hxk
          refine gl_nil ?_
          refine gx_then ?_
          refine gc_seq ?_
          refine gc_cond_t rfl ?_
          refine gc_skip ?_
          refine gx_then ?_
          refine gc_seq ?_
          refine gc_block ?_
          refine gc_seq ?_
          refine gc_region ?_
          refine gl_op (op_rd rfl (rd_indexRow1 6 rfl Try.underlying55 ty_3 rfl rfl (by omega) (by omega)) ?_)
          refine gl_op (op_rd rfl (rd_load Try.underlying3 rfl rfl (ld_rowN 6 rfl (get_natsL hk))) ?_)
          refine gl_op (op_rd rfl (rd_assign rfl) ?_)
          refine gl_nil ?_
          refine gx_then ?_
          refine gc_seq ?_
          refine gc_region ?_
          refine gl_op (op_rd rfl (rd_move rfl) ?_)
          refine gl_op (op_rd rfl (rd_nilCheck rfl) ?_)
          refine gl_op (op_rd rfl (rd_fieldAddr rfl (fa_81_3 _)) ?_)
          refine gl_op (op_rd rfl (rd_load Try.underlying78 rfl rfl (by first | exact ld_blk 0 rfl rfl | exact ld_blk 2 rfl rfl | exact ld_blk 5 rfl rfl | exact ld_blk 7 rfl rfl | exact ld_old (by assumption) (by simp) | exact ld_cells (by assumption) (by simp) rfl)) ?_)
          refine gl_op (op_rd rfl (rd_move rfl) ?_)
          refine gl_op (op_rd rfl (rd_lookupM 1 HV rfl Try.underlying78 Try.underlying3 ty_96 rfl rfl) ?_)
          refine gl_op (op_alloc ty_96 rfl rfl (fun b12 => ?_))
          rw [hgx, Option.map_some, Option.getD_some]
          first | refine gl_op (op_storeAgg 0 ty_96 rfl rfl rfl rfl rfl rfl (by first | rfl | (simp only [List.set_cons_succ, List.set_cons_zero]; exact rfl)) ?_) | refine gl_op (op_storeAgg 1 ty_96 rfl rfl rfl rfl rfl rfl (by first | rfl | (simp only [List.set_cons_succ, List.set_cons_zero]; exact rfl)) ?_) | refine gl_op (op_storeAgg 3 ty_96 rfl rfl rfl rfl rfl rfl (by first | rfl | (simp only [List.set_cons_succ, List.set_cons_zero]; exact rfl)) ?_) | refine gl_op (op_storeAgg 6 ty_96 rfl rfl rfl rfl rfl rfl (by first | rfl | (simp only [List.set_cons_succ, List.set_cons_zero]; exact rfl)) ?_) | refine gl_op (op_storeAgg 8 ty_96 rfl rfl rfl rfl rfl rfl (by first | rfl | (simp only [List.set_cons_succ, List.set_cons_zero]; exact rfl)) ?_) | refine gl_op (op_storeRowAgg 4 ty_96 rfl rfl rfl rfl rfl (by simp; omega) (by first | rfl | (simp only [List.set_cons_succ, List.set_cons_zero]; exact rfl)) ?_) | refine gl_op (op_storeRowAgg 5 ty_96 rfl rfl rfl rfl rfl (by simp; omega) (by first | rfl | (simp only [List.set_cons_succ, List.set_cons_zero]; exact rfl)) ?_) | refine gl_op (op_storeRowAgg 7 ty_96 rfl rfl rfl rfl rfl (by simp; omega) (by first | rfl | (simp only [List.set_cons_succ, List.set_cons_zero]; exact rfl)) ?_) | refine gl_op (op_storeRowAgg 9 ty_96 rfl rfl rfl rfl rfl (by simp; omega) (by first | rfl | (simp only [List.set_cons_succ, List.set_cons_zero]; exact rfl)) ?_)
          refine gl_nil ?_
          refine gx_then ?_
          refine gc_seq ?_
          refine gc_seq ?_
          refine gc_region ?_
          refine gl_op (op_rd rfl (rd_fieldAddr rfl (fa_96_1 _)) ?_)
          refine gl_op (op_rd rfl (rd_fieldAddr rfl (fa_94_0 _)) ?_)
          refine gl_op (op_rd rfl (rd_load Try.underlying3 rfl rfl (by first | exact ld_blk 0 rfl rfl | exact ld_blk 1 rfl rfl | exact ld_blk 3 rfl rfl | exact ld_blk 6 rfl rfl | exact ld_blk 8 rfl rfl | exact ld_rowN 4 rfl (get_nats (by omega)) | exact ld_rowN 5 rfl (get_nats (by omega)) | exact ld_rowN 7 rfl (get_nats (by omega)) | exact ld_rowN 9 rfl (get_nats (by omega)) | exact ld_slN (by assumption) (get_nats (by omega)) | exact ld_rowN 4 rfl (get_ints (by omega)) | exact ld_rowN 5 rfl (get_ints (by omega)) | exact ld_rowN 7 rfl (get_ints (by omega)) | exact ld_rowN 9 rfl (get_ints (by omega)) | exact ld_slN (by assumption) (get_ints (by omega)) | exact ld_old (by assumption) (by simp) | exact ld_cells (by assumption) (by simp) rfl)) ?_)
          refine gl_op (op_rd rfl (rd_move rfl) ?_)
          refine gl_op (op_rd rfl (rd_neq rfl rfl) (gk_dec (fun h92 => ?_) (fun h92 => ?_)))
          · skip
            refine gl_nil ?_
            refine gx_then ?_
            refine gc_cond_t rfl ?_
            refine gc_exit ?_
            refine gx_then_exit ?_
            refine gx_block_exit ?_
            refine gx_then ?_
            refine gc_region ?_
            refine gl_op (op_rd rfl (by first | exact rd_addN (b := 1) rfl rfl (by omega) | exact rd_add rfl rfl (by omega) (by omega)) ?_)
            refine gl_op (op_rd rfl (rd_move rfl) ?_)
            refine gl_nil ?_
            refine gx_then ?_
            exact gx_cut ((i + 1, sl, g, m2, nb2)) ⟨⟨by simp only; omega, by simp only; rw [mv_succ hk, hmv]; unfold mvStep; rw [if_neg (fun h => h rfl), hpg]; simp only; rw [if_pos (by omega)], hm2, hg, hgl, by simp only; omega, hger, hcn, hkeys⟩, by simp only; omega⟩ ⟨rfl, rfl, rfl, rfl, rfl, rfl, trivial⟩ (sub_tail (A := [_, _, _, _, _, _, _, _, _]) (B := [_, _, _, _, _, _, _, _, _, _]) (T := T) [1, 2, 3, 4, 5, 6, 7, 8, 9] 10 (by decide) (by decide) rfl rfl)
          · skip
            have hxv : x.en.bk = v := by omega
            have hcp := cnt_put (z := ⟨x.en.key, x.en.num, x.en.val, fb, sl⟩) hxv (show fb ≠ v by omega) hpg
            have hplt := pack_lt (num := x.en.num) (show x.en.key < 65536 by have := hxe.key; omega) hxe.val hxe.len
            have hp24 := pack_len (key := x.en.key) (num := x.en.num) hxe.len
            have hen2 : EnOk ⟨x.en.key, x.en.num, x.en.val, fb, sl⟩ := ⟨hxe.key, hxe.num, hxe.len, hxe.val, (by simp only; omega), (by simp only; omega)⟩
            obtain ⟨w1, w2, w3, w4, w5⟩ := wr_ok hg (o := fb * 256 + sl * 24) hplt (packP x.en.key x.en.num x.en.val).length (by omega)
            rw [show wrTo g (fb * 256 + sl * 24) (packP x.en.key x.en.num x.en.val) (packP x.en.key x.en.num x.en.val).length = writeP g (fb * 256 + sl * 24) (packP x.en.key x.en.num x.en.val) from rfl] at w1 w2 w3 w4 w5
            rw [hp24] at w2
            refine gl_nil ?_
            refine gx_then ?_
            refine gc_cond_f rfl ?_
            refine gc_skip ?_
            refine gx_then ?_
            refine gc_seq ?_
            refine gc_seq ?_
            refine gc_drawP [0, 1, 2, 7, 8, 9] true 6 rfl ?_
            refine ga_first 0 #[true, false, false, false, false, false, false] rfl rfl rfl rfl (by kernel_rfl) rfl ⟨[0, 1, 2, 7, 8, 9], by decide, rfl⟩ (qt_rd (rd_move rfl)) ?_
            refine ga_first 1 #[true, true, false, false, false, false, false] rfl rfl rfl rfl (by kernel_rfl) rfl ⟨[0, 1, 2, 7, 8, 9], by decide, rfl⟩ (qt_rd (rd_loadAgg Try.underlying94 rfl ty_94 rfl (by first | exact cs_blk 0 (off := 0) (k := 2) rfl rfl | exact cs_blk 1 (off := 0) (k := 2) rfl rfl | exact cs_blk 4 (off := 0) (k := 2) rfl rfl | exact cs_old (by assumption) (by simp)) rfl)) ?_
            refine ga_first 2 #[true, true, true, false, false, false, false] rfl rfl rfl rfl (by kernel_rfl) rfl ⟨[0, 1, 2, 7, 8, 9], by decide, rfl⟩ (qt_rd (rd_fieldAddr rfl (fa_96_0 _))) ?_
            refine ga_first 3 #[true, true, true, true, false, false, false] rfl rfl rfl rfl (by kernel_rfl) rfl ⟨[0, 1, 2, 7, 8, 9], by decide, rfl⟩ (qt_rd (rd_loadAgg Try.underlying92 rfl ty_92 rfl (by first | exact cs_blk 0 (off := 0) (k := 3) rfl rfl | exact cs_blk 1 (off := 0) (k := 3) rfl rfl | exact cs_blk 4 (off := 0) (k := 3) rfl rfl | exact cs_old (by assumption) (by simp)) rfl)) ?_
            refine ga_only 4 #[true, true, true, true, true, false, false] rfl rfl (by kernel_rfl) rfl (.inr ⟨[0, 1, 2, 7, 8, 9], by decide, rfl⟩) (op_call rfl (vf := []) (vc := []) rfl rfl Try.call52 (fun w1 ho => pack_all x hxe x.en.num hxe.num w1 (ho.memSl (show x.row ∈ _ from by simp [hxr])) (row_nil ho (show x.row ∈ _ from by simp [hxr]))) ?_)
            rintro _ _ ⟨rr, cr, rfl, rfl⟩
            refine ga_only 5 #[true, true, true, true, true, true, false] rfl rfl (by kernel_rfl) rfl (.inr ⟨[1, 2, 3, 8, 9, 10], by decide, rfl⟩) (op_callMT [_, _, _, _, _, _, _, _, _, _, _] T [7, 4, 5, 6] [0, 1, 2, 3, 8, 9, 10] 11 rfl rfl rfl (vf := []) (vc := []) rfl rfl Try.call51 (by decide) (by decide) rfl (fun w how hc => write_ok g hg bs bf rb cb rp cp id bm num fb _ w hc (by omega) fb sl (by omega) (by omega) (packP x.en.key x.en.num x.en.val) hplt hp24 (some ⟨rr, 0, none⟩) 24 (rowOut how 0 [7, 4, 5, 6] rfl (by decide))) ?_)
            rintro _ _ ⟨rfl, rfl⟩
            refine ga_first 6 #[true, true, true, true, true, true, true] rfl rfl rfl rfl (by kernel_rfl) rfl ⟨[5, 6, 7, 8, 9, 10], by decide, rfl⟩ (qt_rd (rd_assign rfl)) ?_
            refine ga_end (by kernel_rfl) (.inr ⟨[5, 6, 7, 8, 9, 10], by decide, rfl⟩) ?_
            refine gx_then ?_
            refine gc_seq ?_
            refine gc_region ?_
            refine gl_op (op_rd rfl (rd_move rfl) ?_)
            refine gl_op (op_rd rfl (rd_neq rfl rfl) (gk_dec (fun h100 => ?_) (fun h100 => ?_)))
            · skip
              refine gl_nil ?_
              refine gx_then ?_
              refine gc_cond_t rfl ?_
              refine gc_seq ?_
              refine gc_region ?_
              refine gl_op (op_rd rfl (rd_move rfl) ?_)
              refine gl_op (op_rd rfl (rd_assign rfl) ?_)
              refine gl_nil ?_
              refine gx_then ?_
              refine gc_ret ?_
              refine gx_then_ret ?_
              refine gx_block_ret ?_
              refine gx_then_ret ?_
              refine gx_then_ret ?_
              refine gx_block_ret ?_
              refine gx_then_ret ?_
              refine gx_ret1S (.inl rfl) Try.results49 rfl (sub_tail (A := [_, _, _, _, _]) (B := [_, _, _, _, _, _, _, _, _, _, _]) (T := T) [0, 7, 1, 2, 3] 11 (by decide) (by decide) rfl rfl) ?_
              have hst : mvTo fb v (keysP (plain m)) f (plain m) (i + 1) = (((writeP g (fb * 256 + sl * 24) (packP x.en.key x.en.num x.en.val)).1, plain m2), sl, (writeP g (fb * 256 + sl * 24) (packP x.en.key x.en.num x.en.val)).2) := by rw [mv_succ hk, hmv]; unfold mvStep; rw [if_neg (fun h => h rfl), hpg]; simp only; rw [if_neg (by omega), if_pos h100]
              have hfin := mv_stay (i := i + 1) (by rw [hst]; exact h100)
              rw [hst] at hfin
              exact ⟨_, (writeP g (fb * 256 + sl * 24) (packP x.en.key x.en.num x.en.val)).1, m2, nb2, fb, rfl, ⟨v, by omega, hv3, fun i hi hne => hv4 i (by omega) hne, .inr ⟨by omega, .inl (by rw [hfin]; exact ⟨h100, rfl, rfl, rfl, rfl⟩)⟩⟩, hm2, w1, by omega, by omega, rfl⟩
            · skip
              refine gl_nil ?_
              refine gx_then ?_
              refine gc_cond_f rfl ?_
              refine gc_skip ?_
              refine gx_then ?_
              refine gc_seq ?_
              refine gc_drawP [0, 1, 2, 3, 4, 5, 6, 8, 9, 10] false 9 rfl ?_
              refine ga_first 0 #[true, false, false, false, false, false, false, false, false, false] rfl rfl rfl rfl (by kernel_rfl) rfl ⟨[0, 1, 2, 3, 4, 5, 6, 8, 9, 10], by decide, rfl⟩ (qt_rd (rd_move rfl)) ?_
              refine ga_first 1 #[true, true, false, false, false, false, false, false, false, false] rfl rfl rfl rfl (by kernel_rfl) rfl ⟨[0, 1, 2, 3, 4, 5, 6, 8, 9, 10], by decide, rfl⟩ (qt_rd (rd_nilCheck rfl)) ?_
              refine ga_first 2 #[true, true, true, false, false, false, false, false, false, false] rfl rfl rfl rfl (by kernel_rfl) rfl ⟨[0, 1, 2, 3, 4, 5, 6, 8, 9, 10], by decide, rfl⟩ (qt_rd (rd_fieldAddr rfl (fa_81_3 _))) ?_
              refine ga_first 3 #[true, true, true, true, false, false, false, false, false, false] rfl rfl rfl rfl (by kernel_rfl) rfl ⟨[0, 1, 2, 3, 4, 5, 6, 8, 9, 10], by decide, rfl⟩ (qt_rd (rd_load Try.underlying78 rfl rfl (by first | exact ld_blk 0 rfl rfl | exact ld_blk 1 rfl rfl | exact ld_blk 5 rfl rfl | exact ld_blk 6 rfl rfl | exact ld_blk 8 rfl rfl | exact ld_old (by assumption) (by simp) | exact ld_cells (by assumption) (by simp) rfl))) ?_
              refine ga_first 4 #[true, true, true, true, true, false, false, false, false, false] rfl rfl rfl rfl (by kernel_rfl) rfl ⟨[0, 1, 2, 3, 4, 5, 6, 8, 9, 10], by decide, rfl⟩ (qt_rd (rd_move rfl)) ?_
              refine ga_first 5 #[true, true, true, true, true, true, false, false, false, false] rfl rfl rfl rfl (by kernel_rfl) rfl ⟨[0, 1, 2, 3, 4, 5, 6, 8, 9, 10], by decide, rfl⟩ (qt_rd (rd_fieldAddr rfl (fa_96_0 _))) ?_
              refine ga_first 6 #[true, true, true, true, true, true, true, false, false, false] rfl rfl rfl rfl (by kernel_rfl) rfl ⟨[0, 1, 2, 3, 4, 5, 6, 8, 9, 10], by decide, rfl⟩ (qt_rd (rd_loadAgg Try.underlying92 rfl ty_92 rfl (by first | exact cs_blk 0 (off := 0) (k := 3) rfl rfl | exact cs_blk 1 (off := 0) (k := 3) rfl rfl | exact cs_blk 5 (off := 0) (k := 3) rfl rfl | exact cs_blk 6 (off := 0) (k := 3) rfl rfl | exact cs_blk 8 (off := 0) (k := 3) rfl rfl | exact cs_old (by assumption) (by simp)) rfl)) ?_
              refine ga_first 7 #[true, true, true, true, true, true, true, true, false, false] rfl rfl rfl rfl (by kernel_rfl) rfl ⟨[0, 1, 2, 3, 4, 5, 6, 8, 9, 10], by decide, rfl⟩ (qt_rd (rd_loadAgg Try.underlying94 rfl ty_94 rfl (by first | exact cs_blk 0 (off := 0) (k := 2) rfl rfl | exact cs_blk 1 (off := 0) (k := 2) rfl rfl | exact cs_blk 5 (off := 0) (k := 2) rfl rfl | exact cs_blk 6 (off := 0) (k := 2) rfl rfl | exact cs_blk 8 (off := 0) (k := 2) rfl rfl | exact cs_old (by assumption) (by simp)) rfl)) ?_
              refine ga_first 8 #[true, true, true, true, true, true, true, true, true, false] rfl rfl rfl rfl (by kernel_rfl) rfl ⟨[0, 1, 2, 3, 4, 5, 6, 8, 9, 10], by decide, rfl⟩ (qt_rd (rd_build rfl (fun _ => bd_96_0_1 _ _ _ _ _ _ _))) ?_
              refine ga_only 9 #[true, true, true, true, true, true, true, true, true, true] rfl rfl (by kernel_rfl) rfl (.inr ⟨[0, 1, 2, 3, 4, 5, 6, 8, 9, 10], by decide, rfl⟩) (op_mapPutM 7 HV (v := ⟨⟨x.en.key, x.en.num, x.en.val, fb, sl⟩, x.r, x.c⟩) Try.underlying78 Try.underlying3 rfl rfl rfl rfl rfl ?_)
              refine ga_end (by kernel_rfl) (.inl (by kernel_rfl)) ?_
              refine gx_then ?_
              refine gc_region ?_
              refine gl_op (op_rd rfl (rd_fieldAddr rfl (fa_94_1 _)) ?_)
              refine gl_op (op_rd rfl (rd_load Try.underlying3 rfl rfl (by first | exact ld_blk 0 rfl rfl | exact ld_blk 1 rfl rfl | exact ld_blk 5 rfl rfl | exact ld_blk 6 rfl rfl | exact ld_blk 9 rfl rfl | exact ld_rowN 2 rfl (get_nats (by omega)) | exact ld_rowN 3 rfl (get_nats (by omega)) | exact ld_rowN 4 rfl (get_nats (by omega)) | exact ld_rowN 8 rfl (get_nats (by omega)) | exact ld_rowN 10 rfl (get_nats (by omega)) | exact ld_slN (by assumption) (get_nats (by omega)) | exact ld_rowN 2 rfl (get_ints (by omega)) | exact ld_rowN 3 rfl (get_ints (by omega)) | exact ld_rowN 4 rfl (get_ints (by omega)) | exact ld_rowN 8 rfl (get_ints (by omega)) | exact ld_rowN 10 rfl (get_ints (by omega)) | exact ld_slN (by assumption) (get_ints (by omega)) | exact ld_old (by assumption) (by simp) | exact ld_cells (by assumption) (by simp) rfl)) ?_)
              refine gl_op (op_rd rfl (by first | exact rd_addN (b := 1) rfl rfl (by omega) | exact rd_add rfl rfl (by omega) (by omega)) ?_)
              refine gl_op (op_rd rfl (rd_fieldAddr rfl (fa_94_1 _)) ?_)
              first | refine gl_op (op_store 0 ty_3 rfl rfl rfl rfl rfl (by first | rfl | (simp only [List.set_cons_succ, List.set_cons_zero]; exact rfl)) (by first | rfl | (simp only [List.set_cons_succ, List.set_cons_zero]; exact rfl)) ?_) | refine gl_op (op_store 1 ty_3 rfl rfl rfl rfl rfl (by first | rfl | (simp only [List.set_cons_succ, List.set_cons_zero]; exact rfl)) (by first | rfl | (simp only [List.set_cons_succ, List.set_cons_zero]; exact rfl)) ?_) | refine gl_op (op_store 5 ty_3 rfl rfl rfl rfl rfl (by first | rfl | (simp only [List.set_cons_succ, List.set_cons_zero]; exact rfl)) (by first | rfl | (simp only [List.set_cons_succ, List.set_cons_zero]; exact rfl)) ?_) | refine gl_op (op_store 6 ty_3 rfl rfl rfl rfl rfl (by first | rfl | (simp only [List.set_cons_succ, List.set_cons_zero]; exact rfl)) (by first | rfl | (simp only [List.set_cons_succ, List.set_cons_zero]; exact rfl)) ?_) | refine gl_op (op_store 9 ty_3 rfl rfl rfl rfl rfl (by first | rfl | (simp only [List.set_cons_succ, List.set_cons_zero]; exact rfl)) (by first | rfl | (simp only [List.set_cons_succ, List.set_cons_zero]; exact rfl)) ?_) | refine gl_op (op_storeRow 2 ty_3 rfl rfl rfl rfl (by simp; omega) (by first | rfl | (simp only [List.set_cons_succ, List.set_cons_zero]; exact rfl)) ?_) | refine gl_op (op_storeRow 3 ty_3 rfl rfl rfl rfl (by simp; omega) (by first | rfl | (simp only [List.set_cons_succ, List.set_cons_zero]; exact rfl)) ?_) | refine gl_op (op_storeRow 4 ty_3 rfl rfl rfl rfl (by simp; omega) (by first | rfl | (simp only [List.set_cons_succ, List.set_cons_zero]; exact rfl)) ?_) | refine gl_op (op_storeRow 8 ty_3 rfl rfl rfl rfl (by simp; omega) (by first | rfl | (simp only [List.set_cons_succ, List.set_cons_zero]; exact rfl)) ?_) | refine gl_op (op_storeRow 10 ty_3 rfl rfl rfl rfl (by simp; omega) (by first | rfl | (simp only [List.set_cons_succ, List.set_cons_zero]; exact rfl)) ?_)
              refine gl_nil ?_
              refine gx_block ?_
              refine gx_then ?_
              refine gc_region ?_
              refine gl_op (op_rd rfl (by first | exact rd_addN (b := 1) rfl rfl (by omega) | exact rd_add rfl rfl (by omega) (by omega)) ?_)
              refine gl_op (op_rd rfl (rd_move rfl) ?_)
              refine gl_nil ?_
              refine gx_then ?_
              have hst : mvTo fb v (keysP (plain m)) f (plain m) (i + 1) = (((writeP g (fb * 256 + sl * 24) (packP x.en.key x.en.num x.en.val)).1, pput ⟨x.en.key, x.en.num, x.en.val, fb, sl⟩ (plain m2)), sl + 1, 0) := by rw [mv_succ hk, hmv]; unfold mvStep; rw [if_neg (fun h => h rfl), hpg]; simp only; rw [if_neg (by omega), if_neg (by omega)]
              exact gx_cut ((i + 1, sl + 1, (writeP g (fb * 256 + sl * 24) (packP x.en.key x.en.num x.en.val)).1, mput (x.en.key : Int) ⟨⟨x.en.key, x.en.num, x.en.val, fb, sl⟩, x.r, x.c⟩ nb2 m2, mnb (x.en.key : Int) m2 nb2)) ⟨⟨by simp only; omega, by simp only; rw [hst, pput_m ⟨⟨x.en.key, x.en.num, x.en.val, fb, sl⟩, x.r, x.c⟩ nb2 hm2.key], hm2.put ⟨⟨x.en.key, x.en.num, x.en.val, fb, sl⟩, x.r, x.c⟩ hen2 (fun y hy => hy) hxr, w1, by simp only; omega, by simp only; omega, by simp only; rw [show ((writeP g (fb * 256 + sl * 24) (packP x.en.key x.en.num x.en.val)).1).er = g.er from wr_er _ _ _ _]; exact hger, by simp only; rw [pput_m ⟨⟨x.en.key, x.en.num, x.en.val, fb, sl⟩, x.r, x.c⟩ nb2 hm2.key]; show cntE (pput ⟨x.en.key, x.en.num, x.en.val, fb, sl⟩ (plain m2)) v + (sl + 1) = cntE (plain m) v; omega, by simp only; rw [pput_m ⟨⟨x.en.key, x.en.num, x.en.val, fb, sl⟩, x.r, x.c⟩ nb2 hm2.key, pput_keys (by rw [hpg]; rfl)]; exact hkeys⟩, by simp only; omega⟩ ⟨rfl, rfl, rfl, rfl, rfl, rfl, trivial⟩ (sub_tail (A := [_, _, _, _, _, _, _, _, _]) (B := [_, _, _, _, _, _, _, _, _, _, _]) (T := T) [6, 7, 1, 2, 3, 0, 8, 9, 10] 11 (by decide) (by decide) rfl rfl)
        · skip
          refine gl_nil ?_
          refine gx_then ?_
          refine gc_seq ?_
          refine gc_cond_f rfl ?_
          refine gc_exit ?_
          refine gx_then_exit ?_
          refine gx_then_exit ?_
          refine gx_block_exit ?_
          refine gx_then ?_
          refine gc_seq ?_
          refine gc_seq ?_
          refine gc_region ?_
          refine gl_op (op_rd rfl (rd_move rfl) ?_)
          refine gl_op (op_rd rfl (rd_nilCheck rfl) ?_)
          refine gl_op (op_rd rfl (rd_fieldAddr rfl (fa_81_1 _)) ?_)
          refine gl_op (op_rd rfl (rd_load Try.underlying25 rfl rfl (by first | exact ld_blk 0 rfl rfl | exact ld_blk 2 rfl rfl | exact ld_blk 5 rfl rfl | exact ld_blk 7 rfl rfl | exact ld_old (by assumption) (by simp) | exact ld_cells (by assumption) (by simp) rfl)) ?_)
          refine gl_op (op_rd rfl (rd_move rfl) ?_)
          have hie : i = (keysP (plain m)).length := by omega
          subst hie
          obtain ⟨e1, e2, e3, e4, e5⟩ := erase_okP hg (by omega) (v : Int)
          refine gl_op (op_callMT [_, _, _, _, _, _, _, _, _] T [2, 3, 4] [0, 1, 5, 6, 7, 8] 9 rfl rfl rfl (vf := []) (vc := []) rfl rfl Try.call27 (by decide) (by decide) rfl (fun w how hc => Erase_ok g hg bf rb cb rp cp _ w hc (v : Int)) ?_)
          rintro _ _ ⟨rfl, rfl⟩
          refine gl_op (op_rd rfl (rd_assign rfl) ?_)
          refine gl_nil ?_
          refine gx_then ?_
          refine gc_seq ?_
          refine gc_region ?_
          refine gl_op (op_rd rfl (rd_move rfl) ?_)
          refine gl_op (op_rd rfl (rd_neq rfl rfl) (gk_dec (fun h123 => ?_) (fun h123 => ?_)))
          · skip
            refine gl_nil ?_
            refine gx_then ?_
            refine gc_cond_t rfl ?_
            refine gc_seq ?_
            refine gc_region ?_
            refine gl_op (op_rd rfl (rd_move rfl) ?_)
            refine gl_op (op_rd rfl (rd_assign rfl) ?_)
            refine gl_nil ?_
            refine gx_then ?_
            refine gc_ret ?_
            refine gx_then_ret ?_
            refine gx_ret1S (.inl rfl) Try.results49 rfl (sub_tail (A := [_, _, _, _, _]) (B := [_, _, _, _, _, _, _, _, _]) (T := T) [5, 4, 0, 1, 2] 9 (by decide) (by decide) rfl rfl) ?_
            exact ⟨_, (flErase g (v : Int)).1, m2, nb2, fb, rfl, ⟨v, by omega, hv3, fun i hi hne => hv4 i (by omega) hne, .inr ⟨by omega, .inr (by rw [hmv]; exact ⟨rfl, rfl, rfl, rfl, by rw [if_pos h123]⟩)⟩⟩, hm2, e1, by omega, by omega, rfl⟩
          · skip
            refine gl_nil ?_
            refine gx_then ?_
            refine gc_cond_f rfl ?_
            refine gc_skip ?_
            refine gx_then ?_
            refine gc_seq ?_
            refine gc_region ?_
            refine gl_op (op_rd rfl (rd_move rfl) ?_)
            refine gl_op (op_rd rfl (rd_move rfl) ?_)
            refine gl_op (op_rd rfl (rd_nilCheck rfl) ?_)
            refine gl_op (op_rd rfl (rd_fieldAddr rfl (fa_81_5 _)) ?_)
            first | refine gl_op (op_store 0 ty_3 rfl rfl rfl rfl rfl (by first | rfl | (simp only [List.set_cons_succ, List.set_cons_zero]; exact rfl)) (by first | rfl | (simp only [List.set_cons_succ, List.set_cons_zero]; exact rfl)) ?_) | refine gl_op (op_store 3 ty_3 rfl rfl rfl rfl rfl (by first | rfl | (simp only [List.set_cons_succ, List.set_cons_zero]; exact rfl)) (by first | rfl | (simp only [List.set_cons_succ, List.set_cons_zero]; exact rfl)) ?_) | refine gl_op (op_store 5 ty_3 rfl rfl rfl rfl rfl (by first | rfl | (simp only [List.set_cons_succ, List.set_cons_zero]; exact rfl)) (by first | rfl | (simp only [List.set_cons_succ, List.set_cons_zero]; exact rfl)) ?_) | refine gl_op (op_store 7 ty_3 rfl rfl rfl rfl rfl (by first | rfl | (simp only [List.set_cons_succ, List.set_cons_zero]; exact rfl)) (by first | rfl | (simp only [List.set_cons_succ, List.set_cons_zero]; exact rfl)) ?_) | refine gl_op (op_storeRow 1 ty_3 rfl rfl rfl rfl (by simp; omega) (by first | rfl | (simp only [List.set_cons_succ, List.set_cons_zero]; exact rfl)) ?_) | refine gl_op (op_storeRow 2 ty_3 rfl rfl rfl rfl (by simp; omega) (by first | rfl | (simp only [List.set_cons_succ, List.set_cons_zero]; exact rfl)) ?_) | refine gl_op (op_storeRow 6 ty_3 rfl rfl rfl rfl (by simp; omega) (by first | rfl | (simp only [List.set_cons_succ, List.set_cons_zero]; exact rfl)) ?_) | refine gl_op (op_storeRow 8 ty_3 rfl rfl rfl rfl (by simp; omega) (by first | rfl | (simp only [List.set_cons_succ, List.set_cons_zero]; exact rfl)) ?_)
            refine gl_nil ?_
            refine gx_then ?_
            refine gc_seq ?_
            refine gc_region ?_
            refine gl_op (op_rd rfl (rd_assign rfl) ?_)
            refine gl_nil ?_
            refine gx_then ?_
            refine gc_ret ?_
            refine gx_ret1S (.inl rfl) Try.results49 rfl (sub_tail (A := [_, _, _, _, _]) (B := [_, _, _, _, _, _, _, _, _]) (T := T) [5, 4, 0, 1, 2] 9 (by decide) (by decide) rfl rfl) ?_
            have h0 : (flErase g (v : Int)).2 = 0 := Decidable.byContradiction h123
            exact ⟨0, (flErase g (v : Int)).1, m2, nb2, v, rfl, ⟨v, by omega, hv3, fun i hi hne => hv4 i (by omega) hne, .inr ⟨by omega, .inr (by rw [hmv]; exact ⟨rfl, rfl, h0.symm, rfl, rfl⟩)⟩⟩, hm2, e1, by omega, by omega, rfl⟩
  · skip
    refine gl_op (op_rd rfl (rd_extract rfl rfl) ?_)
    refine gl_nil ?_
    refine gx_then ?_
    refine gc_seq ?_
    refine gc_cond_t rfl ?_
    refine gc_skip ?_
    refine gx_then ?_
    refine gc_block ?_
    refine gc_seq ?_
    refine gc_region ?_
    refine gl_op (op_rd rfl (rd_entry 3 0 HV hms.ok hy rfl rfl rfl) ?_)
    refine gl_op (op_rd rfl (rd_extract rfl rfl) ?_)
    refine gl_op (op_alloc ty_96 rfl rfl (fun b5 => ?_))
    first | refine gl_op (op_storeAgg 0 ty_96 rfl rfl rfl rfl rfl rfl (by first | rfl | (simp only [List.set_cons_succ, List.set_cons_zero]; exact rfl)) ?_) | refine gl_op (op_storeAgg 1 ty_96 rfl rfl rfl rfl rfl rfl (by first | rfl | (simp only [List.set_cons_succ, List.set_cons_zero]; exact rfl)) ?_) | refine gl_op (op_storeAgg 3 ty_96 rfl rfl rfl rfl rfl rfl (by first | rfl | (simp only [List.set_cons_succ, List.set_cons_zero]; exact rfl)) ?_) | refine gl_op (op_storeAgg 5 ty_96 rfl rfl rfl rfl rfl rfl (by first | rfl | (simp only [List.set_cons_succ, List.set_cons_zero]; exact rfl)) ?_) | refine gl_op (op_storeRowAgg 2 ty_96 rfl rfl rfl rfl rfl (by simp; omega) (by first | rfl | (simp only [List.set_cons_succ, List.set_cons_zero]; exact rfl)) ?_) | refine gl_op (op_storeRowAgg 6 ty_96 rfl rfl rfl rfl rfl (by simp; omega) (by first | rfl | (simp only [List.set_cons_succ, List.set_cons_zero]; exact rfl)) ?_) | refine gl_op (op_storeRowAgg 7 ty_96 rfl rfl rfl rfl rfl (by simp; omega) (by first | rfl | (simp only [List.set_cons_succ, List.set_cons_zero]; exact rfl)) ?_)
    refine gl_nil ?_
    refine gx_then ?_
    have hyb := hbn y hy
    have hcl := cnt_le (plain ds) y.v.en.bk
    have hcl2 : (plain ds).length = ds.length := by simp [plain]
    refine gc_region ?_
    refine gl_op (op_rd rfl (rd_move rfl) ?_)
    refine gl_op (op_rd rfl (rd_fieldAddr rfl (fa_96_1 _)) ?_)
    refine gl_op (op_rd rfl (rd_fieldAddr rfl (fa_94_0 _)) ?_)
    refine gl_op (op_rd rfl (rd_load Try.underlying3 rfl rfl (by first | exact ld_blk 0 rfl rfl | exact ld_blk 1 rfl rfl | exact ld_blk 3 rfl rfl | exact ld_blk 5 rfl rfl | exact ld_rowN 2 rfl (get_nats (by omega)) | exact ld_rowN 6 rfl (get_nats (by omega)) | exact ld_rowN 7 rfl (get_nats (by omega)) | exact ld_slN (by assumption) (get_nats (by omega)) | exact ld_rowN 2 rfl (get_ints (by omega)) | exact ld_rowN 6 rfl (get_ints (by omega)) | exact ld_rowN 7 rfl (get_ints (by omega)) | exact ld_slN (by assumption) (get_ints (by omega)) | exact ld_old (by assumption) (by simp) | exact ld_cells (by assumption) (by simp) rfl)) ?_)
    refine gl_op (op_rd rfl (rd_indexRow1 2 rfl Try.underlying55 ty_3 rfl rfl (by omega) (by omega)) ?_)
    refine gl_op (op_rd rfl (rd_load Try.underlying3 rfl rfl (ld_rowN 2 rfl (cnt_get (P := plain ds) hyb))) ?_)
    refine gl_op (op_rd rfl (by first | exact rd_addN (b := 1) rfl rfl (by omega) | exact rd_add rfl rfl (by omega) (by omega)) ?_)
    refine gl_op (op_rd rfl (rd_indexRow1 2 rfl Try.underlying55 ty_3 rfl rfl (by omega) (by omega)) ?_)
    refine gl_op (op_storeRowE 2 ty_3 rfl rfl rfl rfl (by simp [cntL_len]; omega) (setN (cntL (plain ds) (f.b.length / 256)) y.v.en.bk (cntE (plain ds) y.v.en.bk + 1)) (by first | rfl | (simp only [List.set_cons_succ, List.set_cons_zero]; exact rfl)) ?_)
    refine gl_nil ?_
    refine gx_block ?_
    refine gx_then ?_
    obtain ⟨hn1, hn2, hn3⟩ := met_snoc hms.ok hnd hsub hy hyd
    rw [cnt_snoc (plain ds) y.v.en _ hyb, show plain ds ++ [y.v.en] = plain (ds ++ [y]) by simp [plain]]
    exact gx_cut ((ds ++ [y])) ⟨⟨hn1, hn2⟩, by simp; omega⟩ ⟨rfl, rfl, rfl, trivial⟩ (sub_tail (A := [_, _, _, _, _, _, _]) (B := [_, _, _, _, _, _, _, _]) (T := T) [1, 2, 3, 4, 5, 6, 7] 8 (by decide) (by decide) rfl rfl)

end Go.Proofs.Ythcbcdjkfefnlaa

set_option autoImplicit false
set_option linter.unusedVariables false
namespace Go.Proofs.Ythcbcdjkfefnlaa
open Go.Gv
open Go.RowKit
open Iv
namespace Iv
def stopId (e : Int) (id : Nat) : Nat := if e = 9 then 0 else id
def WriteOut (f : Fl) (P : List En) (num fb id key : Nat) (vs : List Nat) (e : Int) (f' : Fl) (P' : List En) (num' id' : Nat) : Prop :=
  ∃ bk sl, RoomAt f.b (fb : Int) bk sl ∧ f' = (writeP f (bk * 256 + sl * 24) (packP key (num + 1) vs)).1 ∧ e = (writeP f (bk * 256 + sl * 24) (packP key (num + 1) vs)).2 ∧
    ((e ≠ 0 ∧ P' = P ∧ num' = num ∧ id' = stopId e id) ∨ (e = 0 ∧ P' = pput ⟨key, num + 1, vs, bk, sl⟩ P ∧ num' = num + 1 ∧ id' = id))
def PutGo (f : Fl) (P : List En) (num fb id key : Nat) (vs : List Nat) (e : Int) (f' : Fl) (P' : List En) (num' fb' id' : Nat) : Prop :=
  (WriteOut f P num fb id key vs e f' P' num' id' ∧ fb' = fb) ∨
  (NoRoom f.b (fb : Int) ∧ ∃ (e1 : Int) (f1 : Fl) (P1 : List En) (fb1 : Nat), CleanOut f P fb e1 f1 P1 fb1 ∧
    ((e1 ≠ 0 ∧ e = e1 ∧ f' = f1 ∧ P' = P1 ∧ num' = num ∧ fb' = fb1 ∧ id' = stopId e1 id) ∨
     (e1 = 0 ∧ NoRoom f1.b (fb1 : Int) ∧ e = 6 ∧ f' = f1 ∧ P' = P1 ∧ num' = num ∧ fb' = fb1 ∧ id' = id) ∨
     (e1 = 0 ∧ WriteOut f1 P1 num fb1 id key vs e f' P' num' id' ∧ fb' = fb1)))
def Full (P : List En) (n key : Nat) : Prop := pget key P = none ∧ 10 * (n - 2) ≤ P.length
theorem room_r {f : Fl} {bs gb : Nat} {free : Int} {w0 : World} (h : Sp Try.prog 48 [.pointer (some ⟨bs, 0, none⟩)] w0 [] (RoomR f.b free)) : Sp Try.prog 48 [.pointer (some ⟨bs, 0, none⟩)] w0 [] (fun v L => (∃ bk sl : Nat, v = .tuple #[.agg #[natV bk, natV sl], .bool true] ∧ RoomAt f.b free bk sl ∧ L = []) ∨ (∃ bk sl : Nat, v = .tuple #[.agg #[natV bk, natV sl], .bool false] ∧ NoRoom f.b free ∧ L = [])) := by
  refine h.mono ?_
  rintro v L ⟨rfl, ⟨bk, sl, h1, h2⟩ | ⟨bk, sl, h1, h2⟩⟩
  · exact .inl ⟨bk, sl, h1, h2, rfl⟩
  · exact .inr ⟨bk, sl, h1, h2, rfl⟩
end Iv

set_option maxRecDepth 100000 in
set_option maxHeartbeats 8000000 in
theorem Put_ok (f : Fl) (hf : f.Ok) (bs bf : Nat) (rb : Option Nat) (cb : Nat) (rp : Option Nat) (cp : Nat) (id bm num : Nat) (fb : Nat) (m : List (ME He)) (nb : Nat) (T : List HL) (hms : MSt m nb T) (S : List Nat) (w0 : World) (hown : Own w0 S w0 (.blk bs [.bool true, .pointer (some ⟨bf, 0, none⟩), natV id, .map (some bm), .int .u32 ((num : Nat) : Int), .int .i64 ((fb : Nat) : Int)] 81 :: .obj bm (mapO HV m nb) :: (FlH bf rb cb rp cp f ++ T))) (hml : m.length ≤ 1000000) (hfb : fb < f.b.length / 256) (hbn : ∀ x ∈ m, x.v.en.bk < f.b.length / 256) (hpr : f.pr + 24 * m.length + 48 < 4611686018427387904) (her : f.er + 1 < 4611686018427387904) (hnum : num + 1 < 4294967296) (key : Nat) (hkey : key ≤ 999) (vs : List Nat) (hvs : ∀ z ∈ vs, z < 256) (hv16 : vs.length ≤ 16) (a : Option Addr) (ca : Nat) (hsl : OldSl w0 S a vs.length 1 (vs.map u8V)) : Sp Try.prog 17 [.pointer (some ⟨bs, 0, none⟩), natV key, .slice a vs.length ca] w0 S (fun v L => (readyP f id ≠ 0 ∧ v = .int .i64 (readyP f id) ∧ L = (.blk bs [.bool true, .pointer (some ⟨bf, 0, none⟩), natV id, .map (some bm), .int .u32 ((num : Nat) : Int), .int .i64 ((fb : Nat) : Int)] 81 :: .obj bm (mapO HV m nb) :: (FlH bf rb cb rp cp f ++ T))) ∨ (readyP f id = 0 ∧ Full (plain m) (f.b.length / 256) key ∧ v = .int .i64 5 ∧ L = (.blk bs [.bool true, .pointer (some ⟨bf, 0, none⟩), natV id, .map (some bm), .int .u32 ((num : Nat) : Int), .int .i64 ((fb : Nat) : Int)] 81 :: .obj bm (mapO HV m nb) :: (FlH bf rb cb rp cp f ++ T))) ∨ (readyP f id = 0 ∧ ¬ Full (plain m) (f.b.length / 256) key ∧ ∃ (e : Int) (f2 : Fl) (m2 : List (ME He)) (nb2 fb2 num2 id2 : Nat) (T2 : List HL), v = .int .i64 e ∧ PutGo f (plain m) num fb id key vs e f2 (plain m2) num2 fb2 id2 ∧ MSt m2 nb2 T2 ∧ (∀ y ∈ T, y ∈ T2) ∧ f2.Ok ∧ f2.b.length = f.b.length ∧ f2.pr ≤ f.pr + 24 * m.length + 24 ∧ L = (.blk bs [.bool true, .pointer (some ⟨bf, 0, none⟩), natV id2, .map (some bm), .int .u32 ((num2 : Nat) : Int), .int .i64 ((fb2 : Nat) : Int)] 81 :: .obj bm (mapO HV m2 nb2) :: (FlH bf rb cb rp cp f2 ++ T2)))) := by
  have hbl := hf.hi
  have hbl0 := hf.lo
  have hblm := hf.len
  have hpml : (plain m).length = m.length := by simp [plain]
  obtain ⟨gb, rfl, hcb⟩ := row_some (hown.holds (.row 5 1 rb f.b.length cb (f.b.map u8V)) (by simp)) (by omega)
  refine spec_enter Try.func17 rfl Try.ntmps17 rfl hown ?_
  simp only [argEnv]
  refine gc_seq ?_
  refine gc_region ?_
  refine gl_op (op_rd rfl (rd_assign rfl) ?_)
  refine gl_nil ?_
  refine gx_then ?_
  refine gc_seq ?_
  refine gc_seq ?_
  refine gc_region ?_
  refine gl_op (op_rd rfl (rd_move rfl) ?_)
  refine gl_op (op_rd rfl (rd_eqlNilPt eg_29 Try.underlying29 rfl rfl) ?_)
  refine gl_op (op_rd rfl (rd_move rfl) ?_)
  refine gl_yes rfl rfl (op_rd rfl (rd_move rfl) ?_)
  refine gl_yes rfl rfl (op_rd rfl (rd_nilCheck rfl) ?_)
  refine gl_yes rfl rfl (op_rd rfl (rd_fieldAddr rfl (fa_81_0 _)) ?_)
  refine gl_yes rfl rfl (op_rd rfl (rd_load Try.underlying4 rfl rfl (by first | exact ld_blk 0 rfl rfl | exact ld_blk 2 rfl rfl | exact ld_rowN 3 rfl (get_bools (by omega)) | exact ld_rowN 4 rfl (get_bools (by omega)) | exact ld_slN (by assumption) (get_bools (by omega)) | exact ld_old (by assumption) (by simp) | exact ld_cells (by assumption) (by simp) rfl)) ?_)
  refine gl_yes rfl rfl (op_rd rfl (rd_not rfl) ?_)
  refine gl_op (op_rd rfl (rd_pick_f rfl rfl) ?_)
  refine gl_nil ?_
  refine gx_then ?_
  refine gc_cond_f rfl ?_
  refine gc_skip ?_
  refine gx_then ?_
  refine gc_seq ?_
  refine gc_seq ?_
  refine gc_region ?_
  refine gl_op (op_rd rfl (rd_move rfl) ?_)
  refine gl_op (op_rd rfl (rd_lss rfl rfl) (gk_dec (fun h25 => ?_) (fun h25 => ?_)))
  · skip
    exfalso; omega
  · skip
    refine gl_op (op_rd rfl (rd_move rfl) ?_)
    refine gl_yes rfl rfl (op_rd rfl (rd_move rfl) ?_)
    refine gl_yes rfl rfl (op_rd rfl (rd_gtr rfl rfl) (gk_dec (fun h28 => ?_) (fun h28 => ?_)))
    · skip
      exfalso; omega
    · skip
      refine gl_op (op_rd rfl (rd_pick_f rfl rfl) ?_)
      refine gl_op (op_rd rfl (rd_move rfl) ?_)
      refine gl_yes rfl rfl (op_rd rfl (rd_move rfl) ?_)
      refine gl_yes rfl rfl (op_rd rfl (rd_lenSlice Try.underlying36 rfl) ?_)
      refine gl_yes rfl rfl (op_rd rfl (rd_gtr rfl rfl) (gk_dec (fun h33 => ?_) (fun h33 => ?_)))
      · skip
        exfalso; omega
      · skip
        refine gl_op (op_rd rfl (rd_pick_f rfl rfl) ?_)
        refine gl_nil ?_
        refine gx_then ?_
        refine gc_cond_f rfl ?_
        refine gc_skip ?_
        refine gx_then ?_
        refine gc_seq ?_
        refine gc_seq ?_
        refine gc_region ?_
        refine gl_op (op_rd rfl (rd_move rfl) ?_)
        refine gl_op (op_call rfl (vf := []) (vc := []) rfl rfl Try.call41 (fun w1 ho => ready_q f hf bs bf (some gb) cb rp cp id bm num fb w1 (ho.blkCells 0 rfl) (ho.blkCells 2 rfl)) ?_)
        rintro _ _ ⟨rfl, rfl⟩
        refine gl_op (op_rd rfl (rd_assign rfl) ?_)
        refine gl_nil ?_
        refine gx_then ?_
        refine gc_seq ?_
        refine gc_region ?_
        refine gl_op (op_rd rfl (rd_move rfl) ?_)
        refine gl_op (op_rd rfl (rd_neq rfl rfl) (gk_dec (fun h38 => ?_) (fun h38 => ?_)))
        · skip
          refine gl_nil ?_
          refine gx_then ?_
          refine gc_cond_t rfl ?_
          refine gc_seq ?_
          refine gc_region ?_
          refine gl_op (op_rd rfl (rd_move rfl) ?_)
          refine gl_op (op_rd rfl (rd_assign rfl) ?_)
          refine gl_nil ?_
          refine gx_then ?_
          refine gc_ret ?_
          refine gx_then_ret ?_
          refine gx_ret1S (.inl rfl) Try.results17 rfl (sub_tail (A := [_, _, _, _, _]) (B := [_, _, _, _, _]) (T := T) [0, 1, 2, 3, 4] 5 (by decide) (by decide) rfl rfl) ?_
          exact .inl ⟨h38, rfl, rfl⟩
        · skip
          refine gl_nil ?_
          refine gx_then ?_
          refine gc_cond_f rfl ?_
          refine gc_skip ?_
          refine gx_then ?_
          refine gc_seq ?_
          refine gc_seq ?_
          rcases hg : mget ((key : Nat) : Int) m with _ | o
          · skip
            refine gc_region ?_
            refine gl_op (op_rd rfl (rd_move rfl) ?_)
            refine gl_op (op_rd rfl (rd_nilCheck rfl) ?_)
            refine gl_op (op_rd rfl (rd_fieldAddr rfl (fa_81_3 _)) ?_)
            refine gl_op (op_rd rfl (rd_load Try.underlying78 rfl rfl (by first | exact ld_blk 0 rfl rfl | exact ld_blk 2 rfl rfl | exact ld_old (by assumption) (by simp) | exact ld_cells (by assumption) (by simp) rfl)) ?_)
            refine gl_op (op_rd rfl (rd_move rfl) ?_)
            refine gl_op (op_rd rfl (rd_lookupMOk 1 HV rfl Try.underlying78 Try.underlying3 ty_96 rfl rfl) ?_)
            refine gl_op (op_rd rfl (rd_move rfl) ?_)
            refine gl_op (op_rd rfl (rd_extract rfl rfl) ?_)
            refine gl_op (op_rd rfl (rd_extract rfl rfl) ?_)
            refine gl_op (op_alloc ty_96 rfl rfl (fun b8 => ?_))
            rw [hg, Option.map_none, Option.getD_none, Option.isSome_none]
            first | refine gl_op (op_storeAgg 0 ty_96 rfl rfl rfl rfl rfl rfl (by first | rfl | (simp only [List.set_cons_succ, List.set_cons_zero]; exact rfl)) ?_) | refine gl_op (op_storeAgg 1 ty_96 rfl rfl rfl rfl rfl rfl (by first | rfl | (simp only [List.set_cons_succ, List.set_cons_zero]; exact rfl)) ?_) | refine gl_op (op_storeAgg 3 ty_96 rfl rfl rfl rfl rfl rfl (by first | rfl | (simp only [List.set_cons_succ, List.set_cons_zero]; exact rfl)) ?_) | refine gl_op (op_storeRowAgg 4 ty_96 rfl rfl rfl rfl rfl (by simp; omega) (by first | rfl | (simp only [List.set_cons_succ, List.set_cons_zero]; exact rfl)) ?_) | refine gl_op (op_storeRowAgg 5 ty_96 rfl rfl rfl rfl rfl (by simp; omega) (by first | rfl | (simp only [List.set_cons_succ, List.set_cons_zero]; exact rfl)) ?_)
            refine gl_op (op_rd rfl (rd_assign rfl) ?_)
            refine gl_nil ?_
            refine gx_then ?_
            refine gc_seq ?_
            refine gc_region ?_
            refine gl_op (op_rd rfl (rd_move rfl) ?_)
            refine gl_op (op_rd rfl (rd_not rfl) ?_)
            refine gl_op (op_rd rfl (rd_move rfl) ?_)
            refine gl_yes rfl rfl (op_rd rfl (rd_move rfl) ?_)
            refine gl_yes rfl rfl (op_rd rfl (rd_nilCheck rfl) ?_)
            refine gl_yes rfl rfl (op_rd rfl (rd_fieldAddr rfl (fa_81_3 _)) ?_)
            refine gl_yes rfl rfl (op_rd rfl (rd_load Try.underlying78 rfl rfl (by first | exact ld_blk 0 rfl rfl | exact ld_blk 1 rfl rfl | exact ld_blk 3 rfl rfl | exact ld_old (by assumption) (by simp) | exact ld_cells (by assumption) (by simp) rfl)) ?_)
            refine gl_yes rfl rfl (op_rd rfl (rd_lenM 2 HV rfl Try.underlying78 rfl) ?_)
            refine gl_yes rfl rfl (op_rd rfl (rd_move rfl) ?_)
            refine gl_yes rfl rfl (op_call rfl (vf := []) (vc := []) rfl rfl Try.call47 (fun w1 ho => most_q f hf bs bf (some gb) cb rp cp id bm num fb w1 (ho.blkCells 1 rfl) (ho.blkCells 3 rfl)) ?_)
            rintro _ _ ⟨rfl, rfl⟩
            refine gl_yes rfl rfl (op_rd rfl (rd_geq rfl rfl) (gk_dec (fun h59 => ?_) (fun h59 => ?_)))
            · skip
              refine gl_op (op_rd rfl (rd_pick_t rfl rfl) ?_)
              refine gl_nil ?_
              refine gx_then ?_
              refine gc_cond_t rfl ?_
              refine gc_seq ?_
              refine gc_region ?_
              refine gl_op (op_rd rfl (rd_assign rfl) ?_)
              refine gl_nil ?_
              refine gx_then ?_
              refine gc_ret ?_
              refine gx_then_ret ?_
              refine gx_ret1S (.inl rfl) Try.results17 rfl (sub_tail (A := [_, _, _, _, _]) (B := [_, _, _, _, _, _]) (T := T) [1, 2, 3, 4, 5] 6 (by decide) (by decide) rfl rfl) ?_
              exact .inr (.inl ⟨by omega, ⟨hms.none hg, by rw [hpml]; omega⟩, rfl, rfl⟩)
            · skip
              refine gl_op (op_rd rfl (rd_pick_t rfl rfl) ?_)
              refine gl_nil ?_
              refine gx_then ?_
              refine gc_cond_f rfl ?_
              refine gc_skip ?_
              refine gx_then ?_
              refine gc_seq ?_
              have hnf : ¬ Full (plain m) (f.b.length / 256) key := fun ⟨h1, h2⟩ => by
                rw [hpml] at h2; omega
              refine gc_region ?_
              refine gl_op (op_rd rfl (rd_move rfl) ?_)
              refine gl_op (op_call rfl (vf := []) (vc := []) rfl rfl Try.call48 (fun w1 ho => room_r (gb := gb) (room_q f hf bs bf gb cb rp cp id bm num fb w1 (ho.blkCells 1 rfl) (ho.blkCells 3 rfl) (ho.rowSl 4 rfl) (by omega))) ?_)
              rintro _ _ (⟨bk, sl, rfl, hroom, rfl⟩ | ⟨bk, sl, rfl, hno, rfl⟩)
              · skip
                refine gl_op (op_rd rfl (rd_move rfl) ?_)
                refine gl_op (op_rd rfl (rd_extract rfl rfl) ?_)
                refine gl_op (op_rd rfl (rd_extract rfl rfl) ?_)
                refine gl_op (op_alloc ty_94 rfl rfl (fun b10 => ?_))
                first | refine gl_op (op_storeAgg 0 ty_94 rfl rfl rfl rfl rfl rfl (by first | rfl | (simp only [List.set_cons_succ, List.set_cons_zero]; exact rfl)) ?_) | refine gl_op (op_storeAgg 1 ty_94 rfl rfl rfl rfl rfl rfl (by first | rfl | (simp only [List.set_cons_succ, List.set_cons_zero]; exact rfl)) ?_) | refine gl_op (op_storeAgg 2 ty_94 rfl rfl rfl rfl rfl rfl (by first | rfl | (simp only [List.set_cons_succ, List.set_cons_zero]; exact rfl)) ?_) | refine gl_op (op_storeAgg 4 ty_94 rfl rfl rfl rfl rfl rfl (by first | rfl | (simp only [List.set_cons_succ, List.set_cons_zero]; exact rfl)) ?_) | refine gl_op (op_storeRowAgg 5 ty_94 rfl rfl rfl rfl rfl (by simp; omega) (by first | rfl | (simp only [List.set_cons_succ, List.set_cons_zero]; exact rfl)) ?_) | refine gl_op (op_storeRowAgg 6 ty_94 rfl rfl rfl rfl rfl (by simp; omega) (by first | rfl | (simp only [List.set_cons_succ, List.set_cons_zero]; exact rfl)) ?_)
                refine gl_op (op_rd rfl (rd_assign rfl) ?_)
                refine gl_nil ?_
                refine gx_then ?_
                refine gc_seq ?_
                refine gc_seq ?_
                refine gc_region ?_
                refine gl_op (op_rd rfl (rd_move rfl) ?_)
                refine gl_op (op_rd rfl (rd_not rfl) ?_)
                refine gl_nil ?_
                refine gx_then ?_
                refine gc_cond_f rfl ?_
                refine gc_skip ?_
                refine gx_then ?_
                refine gc_seq ?_
                refine gc_drawP [0, 1, 2, 3, 4, 5, 6] false 10 rfl ?_
                refine ga_first 0 #[true, false, false, false, false, false, false, false, false, false, false] rfl rfl rfl rfl (by kernel_rfl) rfl ⟨[0, 1, 2, 3, 4, 5, 6], by decide, rfl⟩ (qt_rd (rd_move rfl)) ?_
                refine ga_first 1 #[true, true, false, false, false, false, false, false, false, false, false] rfl rfl rfl rfl (by kernel_rfl) rfl ⟨[0, 1, 2, 3, 4, 5, 6], by decide, rfl⟩ (qt_rd (rd_move rfl)) ?_
                refine ga_first 2 #[true, true, true, false, false, false, false, false, false, false, false] rfl rfl rfl rfl (by kernel_rfl) rfl ⟨[0, 1, 2, 3, 4, 5, 6], by decide, rfl⟩ (qt_rd (rd_nilCheck rfl)) ?_
                refine ga_first 3 #[true, true, true, true, false, false, false, false, false, false, false] rfl rfl rfl rfl (by kernel_rfl) rfl ⟨[0, 1, 2, 3, 4, 5, 6], by decide, rfl⟩ (qt_rd (rd_fieldAddr rfl (fa_81_4 _))) ?_
                refine ga_first 4 #[true, true, true, true, true, false, false, false, false, false, false] rfl rfl rfl rfl (by kernel_rfl) rfl ⟨[0, 1, 2, 3, 4, 5, 6], by decide, rfl⟩ (qt_rd (rd_load Try.underlying79 rfl rfl (by first | exact ld_blk 0 rfl rfl | exact ld_blk 1 rfl rfl | exact ld_blk 2 rfl rfl | exact ld_blk 4 rfl rfl | exact ld_old (by assumption) (by simp) | exact ld_cells (by assumption) (by simp) rfl))) ?_
                refine ga_first 5 #[true, true, true, true, true, true, false, false, false, false, false] rfl rfl rfl rfl (by kernel_rfl) rfl ⟨[0, 1, 2, 3, 4, 5, 6], by decide, rfl⟩ (qt_rd (rd_add32 (b := 1) rfl rfl (by omega))) ?_
                refine ga_first 6 #[true, true, true, true, true, true, true, false, false, false, false] rfl rfl rfl rfl (by kernel_rfl) rfl ⟨[0, 1, 2, 3, 4, 5, 6], by decide, rfl⟩ (qt_rd (rd_move rfl)) ?_
                refine ga_two 7 9 #[true, true, true, true, true, true, true, true, false, false, false] #[true, true, true, true, true, true, true, false, false, true, false] rfl rfl rfl rfl (by kernel_rfl) rfl rfl (.inr ⟨[0, 1, 2, 3, 4, 5, 6], by decide, rfl⟩) ?_ ?_
                · skip
                  refine (op_call rfl (vf := []) (vc := []) rfl rfl Try.call42 (fun w2 ho => Clone_ok vs a ca w2 (hsl.at ho) (by omega)) ?_)
                  rintro _ _ ⟨rv, cv, rfl, rfl⟩
                  refine ga_first 8 #[true, true, true, true, true, true, true, true, true, false, false] rfl rfl rfl rfl (by kernel_rfl) rfl ⟨[1, 2, 3, 4, 5, 6, 7], by decide, rfl⟩ (qt_rd (rd_build rfl (fun _ => bd_92_0_1_2 _ _ _ _ _))) ?_
                  refine ga_only 9 #[true, true, true, true, true, true, true, true, true, true, false] rfl rfl (by kernel_rfl) rfl (.inr ⟨[1, 2, 3, 4, 5, 6, 7], by decide, rfl⟩) (op_alloc ty_92 rfl rfl (fun b13 => ?_))
                  first | refine ga_only 10 #[true, true, true, true, true, true, true, true, true, true, true] rfl rfl (by kernel_rfl) rfl (.inr ⟨[2, 3, 4, 5, 6, 7, 8], by decide, rfl⟩) (op_storeAgg 0 ty_92 rfl rfl rfl rfl rfl rfl (by first | rfl | (simp only [List.set_cons_succ, List.set_cons_zero]; exact rfl)) ?_) | refine ga_only 10 #[true, true, true, true, true, true, true, true, true, true, true] rfl rfl (by kernel_rfl) rfl (.inr ⟨[2, 3, 4, 5, 6, 7, 8], by decide, rfl⟩) (op_storeAgg 2 ty_92 rfl rfl rfl rfl rfl rfl (by first | rfl | (simp only [List.set_cons_succ, List.set_cons_zero]; exact rfl)) ?_) | refine ga_only 10 #[true, true, true, true, true, true, true, true, true, true, true] rfl rfl (by kernel_rfl) rfl (.inr ⟨[2, 3, 4, 5, 6, 7, 8], by decide, rfl⟩) (op_storeAgg 3 ty_92 rfl rfl rfl rfl rfl rfl (by first | rfl | (simp only [List.set_cons_succ, List.set_cons_zero]; exact rfl)) ?_) | refine ga_only 10 #[true, true, true, true, true, true, true, true, true, true, true] rfl rfl (by kernel_rfl) rfl (.inr ⟨[2, 3, 4, 5, 6, 7, 8], by decide, rfl⟩) (op_storeAgg 4 ty_92 rfl rfl rfl rfl rfl rfl (by first | rfl | (simp only [List.set_cons_succ, List.set_cons_zero]; exact rfl)) ?_) | refine ga_only 10 #[true, true, true, true, true, true, true, true, true, true, true] rfl rfl (by kernel_rfl) rfl (.inr ⟨[2, 3, 4, 5, 6, 7, 8], by decide, rfl⟩) (op_storeAgg 6 ty_92 rfl rfl rfl rfl rfl rfl (by first | rfl | (simp only [List.set_cons_succ, List.set_cons_zero]; exact rfl)) ?_) | refine ga_only 10 #[true, true, true, true, true, true, true, true, true, true, true] rfl rfl (by kernel_rfl) rfl (.inr ⟨[2, 3, 4, 5, 6, 7, 8], by decide, rfl⟩) (op_storeRowAgg 1 ty_92 rfl rfl rfl rfl rfl (by simp; omega) (by first | rfl | (simp only [List.set_cons_succ, List.set_cons_zero]; exact rfl)) ?_) | refine ga_only 10 #[true, true, true, true, true, true, true, true, true, true, true] rfl rfl (by kernel_rfl) rfl (.inr ⟨[2, 3, 4, 5, 6, 7, 8], by decide, rfl⟩) (op_storeRowAgg 7 ty_92 rfl rfl rfl rfl rfl (by simp; omega) (by first | rfl | (simp only [List.set_cons_succ, List.set_cons_zero]; exact rfl)) ?_) | refine ga_only 10 #[true, true, true, true, true, true, true, true, true, true, true] rfl rfl (by kernel_rfl) rfl (.inr ⟨[2, 3, 4, 5, 6, 7, 8], by decide, rfl⟩) (op_storeRowAgg 8 ty_92 rfl rfl rfl rfl rfl (by simp; omega) (by first | rfl | (simp only [List.set_cons_succ, List.set_cons_zero]; exact rfl)) ?_)
                  refine ga_end (by kernel_rfl) (.inl (by kernel_rfl)) ?_
                  refine gx_then ?_
                  refine gc_seq ?_
                  refine gc_seq ?_
                  have hbkn := hroom.hbk
                  have hslt := hroom.hsl
                  have hplt := pack_lt (num := num + 1) (show key < 65536 by omega) hvs hv16
                  have hp24 := pack_len (key := key) (num := num + 1) hv16
                  obtain ⟨w1, w2, w3, w4, w5⟩ := wr_ok hf (o := bk * 256 + sl * 24) hplt (packP key (num + 1) vs).length (by omega)
                  rw [show wrTo f (bk * 256 + sl * 24) (packP key (num + 1) vs) (packP key (num + 1) vs).length = writeP f (bk * 256 + sl * 24) (packP key (num + 1) vs) from rfl] at w1 w2 w3 w4 w5
                  rw [hp24] at w2
                  refine gc_drawP [0, 1, 2, 3, 5] true 5 rfl ?_
                  refine ga_first 0 #[true, false, false, false, false, false] rfl rfl rfl rfl (by kernel_rfl) rfl ⟨[0, 1, 2, 3, 5], by decide, rfl⟩ (qt_rd (rd_move rfl)) ?_
                  refine ga_first 1 #[true, true, false, false, false, false] rfl rfl rfl rfl (by kernel_rfl) rfl ⟨[0, 1, 2, 3, 5], by decide, rfl⟩ (qt_rd (rd_loadAgg Try.underlying94 rfl ty_94 rfl (by first | exact cs_blk 0 (off := 0) (k := 2) rfl rfl | exact cs_blk 2 (off := 0) (k := 2) rfl rfl | exact cs_blk 3 (off := 0) (k := 2) rfl rfl | exact cs_old (by assumption) (by simp)) rfl)) ?_
                  refine ga_first 2 #[true, true, true, false, false, false] rfl rfl rfl rfl (by kernel_rfl) rfl ⟨[0, 1, 2, 3, 5], by decide, rfl⟩ (qt_rd (rd_loadAgg Try.underlying92 rfl ty_92 rfl (by first | exact cs_blk 0 (off := 0) (k := 3) rfl rfl | exact cs_blk 2 (off := 0) (k := 3) rfl rfl | exact cs_blk 3 (off := 0) (k := 3) rfl rfl | exact cs_old (by assumption) (by simp)) rfl)) ?_
                  refine ga_only 3 #[true, true, true, true, false, false] rfl rfl (by kernel_rfl) rfl (.inr ⟨[0, 1, 2, 3, 5], by decide, rfl⟩) (op_call rfl (vf := []) (vc := []) rfl rfl Try.call52 (fun w2 ho => pack_all ⟨⟨key, num + 1, vs, bk, sl⟩, rv, cv⟩ ⟨hkey, hnum, hv16, hvs, (by simp only; omega), (by simp only; omega)⟩ (num + 1) hnum w2 (ho.rowSl 1 rfl) (row_nil (x := ⟨⟨key, num + 1, vs, bk, sl⟩, rv, cv⟩) ho (List.mem_of_getElem? (i := 1) rfl))) ?_)
                  rintro _ _ ⟨rr, cr, rfl, rfl⟩
                  refine ga_only 4 #[true, true, true, true, true, false] rfl rfl (by kernel_rfl) rfl (.inr ⟨[1, 2, 3, 4, 6], by decide, rfl⟩) (op_callMT [_, _, _, _, _, _, _, _, _, _] T [5, 7, 8, 9] [0, 1, 2, 3, 4, 6] 10 rfl rfl rfl (vf := []) (vc := []) rfl rfl Try.call51 (by decide) (by decide) rfl (fun w how hc => write_ok f hf bs bf (some gb) cb rp cp id bm num fb _ w hc (by omega) bk sl (by have := hroom.hbk; omega) hroom.hsl (packP key (num + 1) vs) hplt hp24 (some ⟨rr, 0, none⟩) 24 (rowOut how 0 [5, 7, 8, 9] rfl (by decide))) ?_)
                  rintro _ _ ⟨rfl, rfl⟩
                  refine ga_first 5 #[true, true, true, true, true, true] rfl rfl rfl rfl (by kernel_rfl) rfl ⟨[5, 6, 7, 8, 9], by decide, rfl⟩ (qt_rd (rd_assign rfl)) ?_
                  refine ga_end (by kernel_rfl) (.inr ⟨[5, 6, 7, 8, 9], by decide, rfl⟩) ?_
                  refine gx_then ?_
                  refine gc_seq ?_
                  refine gc_region ?_
                  refine gl_op (op_rd rfl (rd_move rfl) ?_)
                  refine gl_op (op_rd rfl (rd_neq rfl rfl) (gk_dec (fun h97 => ?_) (fun h97 => ?_)))
                  · skip
                    refine gl_nil ?_
                    refine gx_then ?_
                    refine gc_cond_t rfl ?_
                    refine gc_seq ?_
                    refine gc_region ?_
                    refine gl_op (op_rd rfl (rd_move rfl) ?_)
                    refine gl_op (op_rd rfl (rd_move rfl) ?_)
                    refine gl_op (op_callMT [_, _, _, _, _, _, _, _, _, _] T [0] [1, 2, 3, 4, 5, 6, 7, 8, 9] 10 rfl rfl rfl (vf := []) (vc := []) rfl rfl Try.call50 (by decide) (by decide) rfl (fun w how hc => stopped_ok [] bs bf bm id num fb (writeP f (bk * 256 + sl * 24) (packP key (num + 1) vs)).2 _ w hc) ?_)
                    rintro _ _ ⟨rfl, rfl⟩
                    refine gl_op (op_rd rfl (rd_assign rfl) ?_)
                    refine gl_nil ?_
                    refine gx_then ?_
                    refine gc_ret ?_
                    refine gx_then_ret ?_
                    refine gx_ret1S (.inl rfl) Try.results17 rfl (sub_tail (A := [_, _, _, _, _]) (B := [_, _, _, _, _, _, _, _, _, _]) (T := T) [0, 9, 1, 2, 3] 10 (by decide) (by decide) rfl rfl) ?_
                    exact .inr (.inr ⟨by omega, hnf, (writeP f (bk * 256 + sl * 24) (packP key (num + 1) vs)).2, (writeP f (bk * 256 + sl * 24) (packP key (num + 1) vs)).1, m, nb, fb, num, stopId (writeP f (bk * 256 + sl * 24) (packP key (num + 1) vs)).2 id, T, rfl, .inl ⟨⟨bk, sl, hroom, rfl, rfl, .inl ⟨h97, rfl, rfl, rfl⟩⟩, rfl⟩, hms, (fun _ h => h), w1, by omega, by omega, rfl⟩)
                  · skip
                    refine gl_nil ?_
                    refine gx_then ?_
                    refine gc_cond_f rfl ?_
                    refine gc_skip ?_
                    refine gx_then ?_
                    refine gc_seq ?_
                    refine gc_region ?_
                    refine gl_op (op_rd rfl (rd_move rfl) ?_)
                    refine gl_op (op_rd rfl (rd_nilCheck rfl) ?_)
                    refine gl_op (op_rd rfl (rd_fieldAddr rfl (fa_81_4 _)) ?_)
                    refine gl_op (op_rd rfl (rd_load Try.underlying79 rfl rfl (by first | exact ld_blk 0 rfl rfl | exact ld_blk 1 rfl rfl | exact ld_blk 5 rfl rfl | exact ld_blk 7 rfl rfl | exact ld_blk 8 rfl rfl | exact ld_old (by assumption) (by simp) | exact ld_cells (by assumption) (by simp) rfl)) ?_)
                    refine gl_op (op_rd rfl (rd_add32 (b := 1) rfl rfl (by omega)) ?_)
                    refine gl_op (op_rd rfl (rd_nilCheck rfl) ?_)
                    refine gl_op (op_rd rfl (rd_fieldAddr rfl (fa_81_4 _)) ?_)
                    first | refine gl_op (op_store 0 ty_79 rfl rfl rfl rfl rfl (by first | rfl | (simp only [List.set_cons_succ, List.set_cons_zero]; exact rfl)) (by first | rfl | (simp only [List.set_cons_succ, List.set_cons_zero]; exact rfl)) ?_) | refine gl_op (op_store 1 ty_79 rfl rfl rfl rfl rfl (by first | rfl | (simp only [List.set_cons_succ, List.set_cons_zero]; exact rfl)) (by first | rfl | (simp only [List.set_cons_succ, List.set_cons_zero]; exact rfl)) ?_) | refine gl_op (op_store 5 ty_79 rfl rfl rfl rfl rfl (by first | rfl | (simp only [List.set_cons_succ, List.set_cons_zero]; exact rfl)) (by first | rfl | (simp only [List.set_cons_succ, List.set_cons_zero]; exact rfl)) ?_) | refine gl_op (op_store 7 ty_79 rfl rfl rfl rfl rfl (by first | rfl | (simp only [List.set_cons_succ, List.set_cons_zero]; exact rfl)) (by first | rfl | (simp only [List.set_cons_succ, List.set_cons_zero]; exact rfl)) ?_) | refine gl_op (op_store 8 ty_79 rfl rfl rfl rfl rfl (by first | rfl | (simp only [List.set_cons_succ, List.set_cons_zero]; exact rfl)) (by first | rfl | (simp only [List.set_cons_succ, List.set_cons_zero]; exact rfl)) ?_) | refine gl_op (op_storeRow 2 ty_79 rfl rfl rfl rfl (by simp; omega) (by first | rfl | (simp only [List.set_cons_succ, List.set_cons_zero]; exact rfl)) ?_) | refine gl_op (op_storeRow 3 ty_79 rfl rfl rfl rfl (by simp; omega) (by first | rfl | (simp only [List.set_cons_succ, List.set_cons_zero]; exact rfl)) ?_) | refine gl_op (op_storeRow 4 ty_79 rfl rfl rfl rfl (by simp; omega) (by first | rfl | (simp only [List.set_cons_succ, List.set_cons_zero]; exact rfl)) ?_) | refine gl_op (op_storeRow 6 ty_79 rfl rfl rfl rfl (by simp; omega) (by first | rfl | (simp only [List.set_cons_succ, List.set_cons_zero]; exact rfl)) ?_)
                    refine gl_nil ?_
                    refine gx_then ?_
                    refine gc_seq ?_
                    refine gc_drawP [0, 1, 2, 3, 4, 5, 6, 7, 8] false 8 rfl ?_
                    refine ga_first 0 #[true, false, false, false, false, false, false, false, false] rfl rfl rfl rfl (by kernel_rfl) rfl ⟨[0, 1, 2, 3, 4, 5, 6, 7, 8], by decide, rfl⟩ (qt_rd (rd_move rfl)) ?_
                    refine ga_first 1 #[true, true, false, false, false, false, false, false, false] rfl rfl rfl rfl (by kernel_rfl) rfl ⟨[0, 1, 2, 3, 4, 5, 6, 7, 8], by decide, rfl⟩ (qt_rd (rd_nilCheck rfl)) ?_
                    refine ga_first 2 #[true, true, true, false, false, false, false, false, false] rfl rfl rfl rfl (by kernel_rfl) rfl ⟨[0, 1, 2, 3, 4, 5, 6, 7, 8], by decide, rfl⟩ (qt_rd (rd_fieldAddr rfl (fa_81_3 _))) ?_
                    refine ga_first 3 #[true, true, true, true, false, false, false, false, false] rfl rfl rfl rfl (by kernel_rfl) rfl ⟨[0, 1, 2, 3, 4, 5, 6, 7, 8], by decide, rfl⟩ (qt_rd (rd_load Try.underlying78 rfl rfl (by first | exact ld_blk 0 rfl rfl | exact ld_blk 1 rfl rfl | exact ld_blk 5 rfl rfl | exact ld_blk 7 rfl rfl | exact ld_blk 8 rfl rfl | exact ld_old (by assumption) (by simp) | exact ld_cells (by assumption) (by simp) rfl))) ?_
                    refine ga_first 4 #[true, true, true, true, true, false, false, false, false] rfl rfl rfl rfl (by kernel_rfl) rfl ⟨[0, 1, 2, 3, 4, 5, 6, 7, 8], by decide, rfl⟩ (qt_rd (rd_move rfl)) ?_
                    refine ga_first 5 #[true, true, true, true, true, true, false, false, false] rfl rfl rfl rfl (by kernel_rfl) rfl ⟨[0, 1, 2, 3, 4, 5, 6, 7, 8], by decide, rfl⟩ (qt_rd (rd_loadAgg Try.underlying92 rfl ty_92 rfl (by first | exact cs_blk 0 (off := 0) (k := 3) rfl rfl | exact cs_blk 1 (off := 0) (k := 3) rfl rfl | exact cs_blk 5 (off := 0) (k := 3) rfl rfl | exact cs_blk 7 (off := 0) (k := 3) rfl rfl | exact cs_blk 8 (off := 0) (k := 3) rfl rfl | exact cs_old (by assumption) (by simp)) rfl)) ?_
                    refine ga_first 6 #[true, true, true, true, true, true, true, false, false] rfl rfl rfl rfl (by kernel_rfl) rfl ⟨[0, 1, 2, 3, 4, 5, 6, 7, 8], by decide, rfl⟩ (qt_rd (rd_loadAgg Try.underlying94 rfl ty_94 rfl (by first | exact cs_blk 0 (off := 0) (k := 2) rfl rfl | exact cs_blk 1 (off := 0) (k := 2) rfl rfl | exact cs_blk 5 (off := 0) (k := 2) rfl rfl | exact cs_blk 7 (off := 0) (k := 2) rfl rfl | exact cs_blk 8 (off := 0) (k := 2) rfl rfl | exact cs_old (by assumption) (by simp)) rfl)) ?_
                    refine ga_first 7 #[true, true, true, true, true, true, true, true, false] rfl rfl rfl rfl (by kernel_rfl) rfl ⟨[0, 1, 2, 3, 4, 5, 6, 7, 8], by decide, rfl⟩ (qt_rd (rd_build rfl (fun _ => bd_96_0_1 _ _ _ _ _ _ _))) ?_
                    refine ga_only 8 #[true, true, true, true, true, true, true, true, true] rfl rfl (by kernel_rfl) rfl (.inr ⟨[0, 1, 2, 3, 4, 5, 6, 7, 8], by decide, rfl⟩) (op_mapPutM 9 HV (v := ⟨⟨key, num + 1, vs, bk, sl⟩, rv, cv⟩) Try.underlying78 Try.underlying3 rfl rfl rfl rfl rfl ?_)
                    refine ga_end (by kernel_rfl) (.inl (by kernel_rfl)) ?_
                    refine gx_then ?_
                    refine gc_seq ?_
                    refine gc_region ?_
                    refine gl_op (op_rd rfl (rd_assign rfl) ?_)
                    refine gl_nil ?_
                    refine gx_then ?_
                    refine gc_ret ?_
                    have hw0 : (writeP f (bk * 256 + sl * 24) (packP key (num + 1) vs)).2 = 0 := Decidable.byContradiction h97
                    have hen2 : EnOk ⟨key, num + 1, vs, bk, sl⟩ := ⟨hkey, hnum, hv16, hvs, (by have := hroom.hbk; simp only; omega), hroom.hsl⟩
                    refine gx_ret1S (.inl rfl) Try.results17 rfl (sub_tail (A := [_, _, _, _, _, _]) (B := [_, _, _, _, _, _, _, _, _, _]) (T := T) [0, 9, 1, 2, 3, 6] 10 (by decide) (by decide) rfl rfl) ?_
                    exact .inr (.inr ⟨by omega, hnf, 0, (writeP f (bk * 256 + sl * 24) (packP key (num + 1) vs)).1, mput ((key : Nat) : Int) ⟨⟨key, num + 1, vs, bk, sl⟩, rv, cv⟩ nb m, mnb ((key : Nat) : Int) m nb, fb, num + 1, id, He.row ⟨⟨key, num + 1, vs, bk, sl⟩, rv, cv⟩ :: T, rfl, .inl ⟨⟨bk, sl, hroom, rfl, hw0.symm, .inr ⟨rfl, pput_m ⟨⟨key, num + 1, vs, bk, sl⟩, rv, cv⟩ nb hms.key, rfl, rfl⟩⟩, rfl⟩, hms.put ⟨⟨key, num + 1, vs, bk, sl⟩, rv, cv⟩ hen2 (fun y hy => List.mem_cons_of_mem _ hy) List.mem_cons_self, (fun y hy => List.mem_cons_of_mem _ hy), w1, by omega, by omega, rfl⟩)
                · skip
                  refine (op_alloc ty_92 rfl rfl (fun b13 => ?_))
                  refine ga_only 7 #[true, true, true, true, true, true, true, true, false, true, false] rfl rfl (by kernel_rfl) rfl (.inr ⟨[1, 2, 3, 4, 5, 6, 7], by decide, rfl⟩) (op_call rfl (vf := []) (vc := []) rfl rfl Try.call42 (fun w2 ho => Clone_ok vs a ca w2 (hsl.at ho) (by omega)) ?_)
                  rintro _ _ ⟨rv, cv, rfl, rfl⟩
                  refine ga_first 8 #[true, true, true, true, true, true, true, true, true, true, false] rfl rfl rfl rfl (by kernel_rfl) rfl ⟨[2, 3, 4, 5, 6, 7, 8], by decide, rfl⟩ (qt_rd (rd_build rfl (fun _ => bd_92_0_1_2 _ _ _ _ _))) ?_
                  first | refine ga_only 10 #[true, true, true, true, true, true, true, true, true, true, true] rfl rfl (by kernel_rfl) rfl (.inr ⟨[2, 3, 4, 5, 6, 7, 8], by decide, rfl⟩) (op_storeAgg 1 ty_92 rfl rfl rfl rfl rfl rfl (by first | rfl | (simp only [List.set_cons_succ, List.set_cons_zero]; exact rfl)) ?_) | refine ga_only 10 #[true, true, true, true, true, true, true, true, true, true, true] rfl rfl (by kernel_rfl) rfl (.inr ⟨[2, 3, 4, 5, 6, 7, 8], by decide, rfl⟩) (op_storeAgg 2 ty_92 rfl rfl rfl rfl rfl rfl (by first | rfl | (simp only [List.set_cons_succ, List.set_cons_zero]; exact rfl)) ?_) | refine ga_only 10 #[true, true, true, true, true, true, true, true, true, true, true] rfl rfl (by kernel_rfl) rfl (.inr ⟨[2, 3, 4, 5, 6, 7, 8], by decide, rfl⟩) (op_storeAgg 3 ty_92 rfl rfl rfl rfl rfl rfl (by first | rfl | (simp only [List.set_cons_succ, List.set_cons_zero]; exact rfl)) ?_) | refine ga_only 10 #[true, true, true, true, true, true, true, true, true, true, true] rfl rfl (by kernel_rfl) rfl (.inr ⟨[2, 3, 4, 5, 6, 7, 8], by decide, rfl⟩) (op_storeAgg 4 ty_92 rfl rfl rfl rfl rfl rfl (by first | rfl | (simp only [List.set_cons_succ, List.set_cons_zero]; exact rfl)) ?_) | refine ga_only 10 #[true, true, true, true, true, true, true, true, true, true, true] rfl rfl (by kernel_rfl) rfl (.inr ⟨[2, 3, 4, 5, 6, 7, 8], by decide, rfl⟩) (op_storeAgg 6 ty_92 rfl rfl rfl rfl rfl rfl (by first | rfl | (simp only [List.set_cons_succ, List.set_cons_zero]; exact rfl)) ?_) | refine ga_only 10 #[true, true, true, true, true, true, true, true, true, true, true] rfl rfl (by kernel_rfl) rfl (.inr ⟨[2, 3, 4, 5, 6, 7, 8], by decide, rfl⟩) (op_storeRowAgg 0 ty_92 rfl rfl rfl rfl rfl (by simp; omega) (by first | rfl | (simp only [List.set_cons_succ, List.set_cons_zero]; exact rfl)) ?_) | refine ga_only 10 #[true, true, true, true, true, true, true, true, true, true, true] rfl rfl (by kernel_rfl) rfl (.inr ⟨[2, 3, 4, 5, 6, 7, 8], by decide, rfl⟩) (op_storeRowAgg 7 ty_92 rfl rfl rfl rfl rfl (by simp; omega) (by first | rfl | (simp only [List.set_cons_succ, List.set_cons_zero]; exact rfl)) ?_) | refine ga_only 10 #[true, true, true, true, true, true, true, true, true, true, true] rfl rfl (by kernel_rfl) rfl (.inr ⟨[2, 3, 4, 5, 6, 7, 8], by decide, rfl⟩) (op_storeRowAgg 8 ty_92 rfl rfl rfl rfl rfl (by simp; omega) (by first | rfl | (simp only [List.set_cons_succ, List.set_cons_zero]; exact rfl)) ?_)
                  refine ga_end (by kernel_rfl) (.inl (by kernel_rfl)) ?_
                  refine gx_then ?_
                  refine gc_seq ?_
                  refine gc_seq ?_
                  have hbkn := hroom.hbk
                  have hslt := hroom.hsl
                  have hplt := pack_lt (num := num + 1) (show key < 65536 by omega) hvs hv16
                  have hp24 := pack_len (key := key) (num := num + 1) hv16
                  obtain ⟨w1, w2, w3, w4, w5⟩ := wr_ok hf (o := bk * 256 + sl * 24) hplt (packP key (num + 1) vs).length (by omega)
                  rw [show wrTo f (bk * 256 + sl * 24) (packP key (num + 1) vs) (packP key (num + 1) vs).length = writeP f (bk * 256 + sl * 24) (packP key (num + 1) vs) from rfl] at w1 w2 w3 w4 w5
                  rw [hp24] at w2
                  refine gc_drawP [0, 1, 2, 3, 5] true 5 rfl ?_
                  refine ga_first 0 #[true, false, false, false, false, false] rfl rfl rfl rfl (by kernel_rfl) rfl ⟨[0, 1, 2, 3, 5], by decide, rfl⟩ (qt_rd (rd_move rfl)) ?_
                  refine ga_first 1 #[true, true, false, false, false, false] rfl rfl rfl rfl (by kernel_rfl) rfl ⟨[0, 1, 2, 3, 5], by decide, rfl⟩ (qt_rd (rd_loadAgg Try.underlying94 rfl ty_94 rfl (by first | exact cs_blk 1 (off := 0) (k := 2) rfl rfl | exact cs_blk 2 (off := 0) (k := 2) rfl rfl | exact cs_blk 3 (off := 0) (k := 2) rfl rfl | exact cs_old (by assumption) (by simp)) rfl)) ?_
                  refine ga_first 2 #[true, true, true, false, false, false] rfl rfl rfl rfl (by kernel_rfl) rfl ⟨[0, 1, 2, 3, 5], by decide, rfl⟩ (qt_rd (rd_loadAgg Try.underlying92 rfl ty_92 rfl (by first | exact cs_blk 1 (off := 0) (k := 3) rfl rfl | exact cs_blk 2 (off := 0) (k := 3) rfl rfl | exact cs_blk 3 (off := 0) (k := 3) rfl rfl | exact cs_old (by assumption) (by simp)) rfl)) ?_
                  refine ga_only 3 #[true, true, true, true, false, false] rfl rfl (by kernel_rfl) rfl (.inr ⟨[0, 1, 2, 3, 5], by decide, rfl⟩) (op_call rfl (vf := []) (vc := []) rfl rfl Try.call52 (fun w2 ho => pack_all ⟨⟨key, num + 1, vs, bk, sl⟩, rv, cv⟩ ⟨hkey, hnum, hv16, hvs, (by simp only; omega), (by simp only; omega)⟩ (num + 1) hnum w2 (ho.rowSl 0 rfl) (row_nil (x := ⟨⟨key, num + 1, vs, bk, sl⟩, rv, cv⟩) ho (List.mem_of_getElem? (i := 0) rfl))) ?_)
                  rintro _ _ ⟨rr, cr, rfl, rfl⟩
                  refine ga_only 4 #[true, true, true, true, true, false] rfl rfl (by kernel_rfl) rfl (.inr ⟨[1, 2, 3, 4, 6], by decide, rfl⟩) (op_callMT [_, _, _, _, _, _, _, _, _, _] T [5, 7, 8, 9] [0, 1, 2, 3, 4, 6] 10 rfl rfl rfl (vf := []) (vc := []) rfl rfl Try.call51 (by decide) (by decide) rfl (fun w how hc => write_ok f hf bs bf (some gb) cb rp cp id bm num fb _ w hc (by omega) bk sl (by have := hroom.hbk; omega) hroom.hsl (packP key (num + 1) vs) hplt hp24 (some ⟨rr, 0, none⟩) 24 (rowOut how 0 [5, 7, 8, 9] rfl (by decide))) ?_)
                  rintro _ _ ⟨rfl, rfl⟩
                  refine ga_first 5 #[true, true, true, true, true, true] rfl rfl rfl rfl (by kernel_rfl) rfl ⟨[5, 6, 7, 8, 9], by decide, rfl⟩ (qt_rd (rd_assign rfl)) ?_
                  refine ga_end (by kernel_rfl) (.inr ⟨[5, 6, 7, 8, 9], by decide, rfl⟩) ?_
                  refine gx_then ?_
                  refine gc_seq ?_
                  refine gc_region ?_
                  refine gl_op (op_rd rfl (rd_move rfl) ?_)
                  refine gl_op (op_rd rfl (rd_neq rfl rfl) (gk_dec (fun h97 => ?_) (fun h97 => ?_)))
                  · skip
                    refine gl_nil ?_
                    refine gx_then ?_
                    refine gc_cond_t rfl ?_
                    refine gc_seq ?_
                    refine gc_region ?_
                    refine gl_op (op_rd rfl (rd_move rfl) ?_)
                    refine gl_op (op_rd rfl (rd_move rfl) ?_)
                    refine gl_op (op_callMT [_, _, _, _, _, _, _, _, _, _] T [0] [1, 2, 3, 4, 5, 6, 7, 8, 9] 10 rfl rfl rfl (vf := []) (vc := []) rfl rfl Try.call50 (by decide) (by decide) rfl (fun w how hc => stopped_ok [] bs bf bm id num fb (writeP f (bk * 256 + sl * 24) (packP key (num + 1) vs)).2 _ w hc) ?_)
                    rintro _ _ ⟨rfl, rfl⟩
                    refine gl_op (op_rd rfl (rd_assign rfl) ?_)
                    refine gl_nil ?_
                    refine gx_then ?_
                    refine gc_ret ?_
                    refine gx_then_ret ?_
                    refine gx_ret1S (.inl rfl) Try.results17 rfl (sub_tail (A := [_, _, _, _, _]) (B := [_, _, _, _, _, _, _, _, _, _]) (T := T) [0, 9, 1, 2, 3] 10 (by decide) (by decide) rfl rfl) ?_
                    exact .inr (.inr ⟨by omega, hnf, (writeP f (bk * 256 + sl * 24) (packP key (num + 1) vs)).2, (writeP f (bk * 256 + sl * 24) (packP key (num + 1) vs)).1, m, nb, fb, num, stopId (writeP f (bk * 256 + sl * 24) (packP key (num + 1) vs)).2 id, T, rfl, .inl ⟨⟨bk, sl, hroom, rfl, rfl, .inl ⟨h97, rfl, rfl, rfl⟩⟩, rfl⟩, hms, (fun _ h => h), w1, by omega, by omega, rfl⟩)
                  · skip
                    refine gl_nil ?_
                    refine gx_then ?_
                    refine gc_cond_f rfl ?_
                    refine gc_skip ?_
                    refine gx_then ?_
                    refine gc_seq ?_
                    refine gc_region ?_
                    refine gl_op (op_rd rfl (rd_move rfl) ?_)
                    refine gl_op (op_rd rfl (rd_nilCheck rfl) ?_)
                    refine gl_op (op_rd rfl (rd_fieldAddr rfl (fa_81_4 _)) ?_)
                    refine gl_op (op_rd rfl (rd_load Try.underlying79 rfl rfl (by first | exact ld_blk 0 rfl rfl | exact ld_blk 1 rfl rfl | exact ld_blk 6 rfl rfl | exact ld_blk 7 rfl rfl | exact ld_blk 8 rfl rfl | exact ld_old (by assumption) (by simp) | exact ld_cells (by assumption) (by simp) rfl)) ?_)
                    refine gl_op (op_rd rfl (rd_add32 (b := 1) rfl rfl (by omega)) ?_)
                    refine gl_op (op_rd rfl (rd_nilCheck rfl) ?_)
                    refine gl_op (op_rd rfl (rd_fieldAddr rfl (fa_81_4 _)) ?_)
                    first | refine gl_op (op_store 0 ty_79 rfl rfl rfl rfl rfl (by first | rfl | (simp only [List.set_cons_succ, List.set_cons_zero]; exact rfl)) (by first | rfl | (simp only [List.set_cons_succ, List.set_cons_zero]; exact rfl)) ?_) | refine gl_op (op_store 1 ty_79 rfl rfl rfl rfl rfl (by first | rfl | (simp only [List.set_cons_succ, List.set_cons_zero]; exact rfl)) (by first | rfl | (simp only [List.set_cons_succ, List.set_cons_zero]; exact rfl)) ?_) | refine gl_op (op_store 6 ty_79 rfl rfl rfl rfl rfl (by first | rfl | (simp only [List.set_cons_succ, List.set_cons_zero]; exact rfl)) (by first | rfl | (simp only [List.set_cons_succ, List.set_cons_zero]; exact rfl)) ?_) | refine gl_op (op_store 7 ty_79 rfl rfl rfl rfl rfl (by first | rfl | (simp only [List.set_cons_succ, List.set_cons_zero]; exact rfl)) (by first | rfl | (simp only [List.set_cons_succ, List.set_cons_zero]; exact rfl)) ?_) | refine gl_op (op_store 8 ty_79 rfl rfl rfl rfl rfl (by first | rfl | (simp only [List.set_cons_succ, List.set_cons_zero]; exact rfl)) (by first | rfl | (simp only [List.set_cons_succ, List.set_cons_zero]; exact rfl)) ?_) | refine gl_op (op_storeRow 2 ty_79 rfl rfl rfl rfl (by simp; omega) (by first | rfl | (simp only [List.set_cons_succ, List.set_cons_zero]; exact rfl)) ?_) | refine gl_op (op_storeRow 3 ty_79 rfl rfl rfl rfl (by simp; omega) (by first | rfl | (simp only [List.set_cons_succ, List.set_cons_zero]; exact rfl)) ?_) | refine gl_op (op_storeRow 4 ty_79 rfl rfl rfl rfl (by simp; omega) (by first | rfl | (simp only [List.set_cons_succ, List.set_cons_zero]; exact rfl)) ?_) | refine gl_op (op_storeRow 5 ty_79 rfl rfl rfl rfl (by simp; omega) (by first | rfl | (simp only [List.set_cons_succ, List.set_cons_zero]; exact rfl)) ?_)
                    refine gl_nil ?_
                    refine gx_then ?_
                    refine gc_seq ?_
                    refine gc_drawP [0, 1, 2, 3, 4, 5, 6, 7, 8] false 8 rfl ?_
                    refine ga_first 0 #[true, false, false, false, false, false, false, false, false] rfl rfl rfl rfl (by kernel_rfl) rfl ⟨[0, 1, 2, 3, 4, 5, 6, 7, 8], by decide, rfl⟩ (qt_rd (rd_move rfl)) ?_
                    refine ga_first 1 #[true, true, false, false, false, false, false, false, false] rfl rfl rfl rfl (by kernel_rfl) rfl ⟨[0, 1, 2, 3, 4, 5, 6, 7, 8], by decide, rfl⟩ (qt_rd (rd_nilCheck rfl)) ?_
                    refine ga_first 2 #[true, true, true, false, false, false, false, false, false] rfl rfl rfl rfl (by kernel_rfl) rfl ⟨[0, 1, 2, 3, 4, 5, 6, 7, 8], by decide, rfl⟩ (qt_rd (rd_fieldAddr rfl (fa_81_3 _))) ?_
                    refine ga_first 3 #[true, true, true, true, false, false, false, false, false] rfl rfl rfl rfl (by kernel_rfl) rfl ⟨[0, 1, 2, 3, 4, 5, 6, 7, 8], by decide, rfl⟩ (qt_rd (rd_load Try.underlying78 rfl rfl (by first | exact ld_blk 0 rfl rfl | exact ld_blk 1 rfl rfl | exact ld_blk 6 rfl rfl | exact ld_blk 7 rfl rfl | exact ld_blk 8 rfl rfl | exact ld_old (by assumption) (by simp) | exact ld_cells (by assumption) (by simp) rfl))) ?_
                    refine ga_first 4 #[true, true, true, true, true, false, false, false, false] rfl rfl rfl rfl (by kernel_rfl) rfl ⟨[0, 1, 2, 3, 4, 5, 6, 7, 8], by decide, rfl⟩ (qt_rd (rd_move rfl)) ?_
                    refine ga_first 5 #[true, true, true, true, true, true, false, false, false] rfl rfl rfl rfl (by kernel_rfl) rfl ⟨[0, 1, 2, 3, 4, 5, 6, 7, 8], by decide, rfl⟩ (qt_rd (rd_loadAgg Try.underlying92 rfl ty_92 rfl (by first | exact cs_blk 0 (off := 0) (k := 3) rfl rfl | exact cs_blk 1 (off := 0) (k := 3) rfl rfl | exact cs_blk 6 (off := 0) (k := 3) rfl rfl | exact cs_blk 7 (off := 0) (k := 3) rfl rfl | exact cs_blk 8 (off := 0) (k := 3) rfl rfl | exact cs_old (by assumption) (by simp)) rfl)) ?_
                    refine ga_first 6 #[true, true, true, true, true, true, true, false, false] rfl rfl rfl rfl (by kernel_rfl) rfl ⟨[0, 1, 2, 3, 4, 5, 6, 7, 8], by decide, rfl⟩ (qt_rd (rd_loadAgg Try.underlying94 rfl ty_94 rfl (by first | exact cs_blk 0 (off := 0) (k := 2) rfl rfl | exact cs_blk 1 (off := 0) (k := 2) rfl rfl | exact cs_blk 6 (off := 0) (k := 2) rfl rfl | exact cs_blk 7 (off := 0) (k := 2) rfl rfl | exact cs_blk 8 (off := 0) (k := 2) rfl rfl | exact cs_old (by assumption) (by simp)) rfl)) ?_
                    refine ga_first 7 #[true, true, true, true, true, true, true, true, false] rfl rfl rfl rfl (by kernel_rfl) rfl ⟨[0, 1, 2, 3, 4, 5, 6, 7, 8], by decide, rfl⟩ (qt_rd (rd_build rfl (fun _ => bd_96_0_1 _ _ _ _ _ _ _))) ?_
                    refine ga_only 8 #[true, true, true, true, true, true, true, true, true] rfl rfl (by kernel_rfl) rfl (.inr ⟨[0, 1, 2, 3, 4, 5, 6, 7, 8], by decide, rfl⟩) (op_mapPutM 9 HV (v := ⟨⟨key, num + 1, vs, bk, sl⟩, rv, cv⟩) Try.underlying78 Try.underlying3 rfl rfl rfl rfl rfl ?_)
                    refine ga_end (by kernel_rfl) (.inl (by kernel_rfl)) ?_
                    refine gx_then ?_
                    refine gc_seq ?_
                    refine gc_region ?_
                    refine gl_op (op_rd rfl (rd_assign rfl) ?_)
                    refine gl_nil ?_
                    refine gx_then ?_
                    refine gc_ret ?_
                    have hw0 : (writeP f (bk * 256 + sl * 24) (packP key (num + 1) vs)).2 = 0 := Decidable.byContradiction h97
                    have hen2 : EnOk ⟨key, num + 1, vs, bk, sl⟩ := ⟨hkey, hnum, hv16, hvs, (by have := hroom.hbk; simp only; omega), hroom.hsl⟩
                    refine gx_ret1S (.inl rfl) Try.results17 rfl (sub_tail (A := [_, _, _, _, _, _]) (B := [_, _, _, _, _, _, _, _, _, _]) (T := T) [0, 9, 1, 2, 3, 5] 10 (by decide) (by decide) rfl rfl) ?_
                    exact .inr (.inr ⟨by omega, hnf, 0, (writeP f (bk * 256 + sl * 24) (packP key (num + 1) vs)).1, mput ((key : Nat) : Int) ⟨⟨key, num + 1, vs, bk, sl⟩, rv, cv⟩ nb m, mnb ((key : Nat) : Int) m nb, fb, num + 1, id, He.row ⟨⟨key, num + 1, vs, bk, sl⟩, rv, cv⟩ :: T, rfl, .inl ⟨⟨bk, sl, hroom, rfl, hw0.symm, .inr ⟨rfl, pput_m ⟨⟨key, num + 1, vs, bk, sl⟩, rv, cv⟩ nb hms.key, rfl, rfl⟩⟩, rfl⟩, hms.put ⟨⟨key, num + 1, vs, bk, sl⟩, rv, cv⟩ hen2 (fun y hy => List.mem_cons_of_mem _ hy) List.mem_cons_self, (fun y hy => List.mem_cons_of_mem _ hy), w1, by omega, by omega, rfl⟩)
              · skip
                refine gl_op (op_rd rfl (rd_move rfl) ?_)
                refine gl_op (op_rd rfl (rd_extract rfl rfl) ?_)
                refine gl_op (op_rd rfl (rd_extract rfl rfl) ?_)
                refine gl_op (op_alloc ty_94 rfl rfl (fun b10 => ?_))
                first | refine gl_op (op_storeAgg 0 ty_94 rfl rfl rfl rfl rfl rfl (by first | rfl | (simp only [List.set_cons_succ, List.set_cons_zero]; exact rfl)) ?_) | refine gl_op (op_storeAgg 1 ty_94 rfl rfl rfl rfl rfl rfl (by first | rfl | (simp only [List.set_cons_succ, List.set_cons_zero]; exact rfl)) ?_) | refine gl_op (op_storeAgg 2 ty_94 rfl rfl rfl rfl rfl rfl (by first | rfl | (simp only [List.set_cons_succ, List.set_cons_zero]; exact rfl)) ?_) | refine gl_op (op_storeAgg 4 ty_94 rfl rfl rfl rfl rfl rfl (by first | rfl | (simp only [List.set_cons_succ, List.set_cons_zero]; exact rfl)) ?_) | refine gl_op (op_storeRowAgg 5 ty_94 rfl rfl rfl rfl rfl (by simp; omega) (by first | rfl | (simp only [List.set_cons_succ, List.set_cons_zero]; exact rfl)) ?_) | refine gl_op (op_storeRowAgg 6 ty_94 rfl rfl rfl rfl rfl (by simp; omega) (by first | rfl | (simp only [List.set_cons_succ, List.set_cons_zero]; exact rfl)) ?_)
                refine gl_op (op_rd rfl (rd_assign rfl) ?_)
                refine gl_nil ?_
                refine gx_then ?_
                refine gc_seq ?_
                refine gc_seq ?_
                refine gc_region ?_
                refine gl_op (op_rd rfl (rd_move rfl) ?_)
                refine gl_op (op_rd rfl (rd_not rfl) ?_)
                refine gl_nil ?_
                refine gx_then ?_
                refine gc_cond_t rfl ?_
                refine gc_seq ?_
                refine gc_seq ?_
                refine gc_region ?_
                refine gl_op (op_rd rfl (rd_move rfl) ?_)
                refine gl_op (op_callMW [_, _, _, _, _, _, _] T [2, 3, 4, 5, 6] [0, 1] 7 rfl rfl rfl (vf := []) (vc := []) rfl rfl Try.call49 (by decide) (by decide) rfl (fun w how hc => clean_ok f hf bs bf (some gb) cb rp cp id bm num fb m nb T hms _ w hc hml hfb hbn (by omega) (by omega)) ?_)
                rintro _ _ ⟨e1, f1, m1, nb1, fb1, rfl, hcl, hm1, hf1, hl1, hp1, rfl⟩
                refine gk_mid [_, _, _, _, _] T [_, _] ?_
                refine gl_op (op_rd rfl (rd_assign rfl) ?_)
                refine gl_nil ?_
                refine gx_then ?_
                refine gc_seq ?_
                refine gc_region ?_
                refine gl_op (op_rd rfl (rd_move rfl) ?_)
                refine gl_op (op_rd rfl (rd_neq rfl rfl) (gk_dec (fun h71 => ?_) (fun h71 => ?_)))
                · skip
                  refine gl_nil ?_
                  refine gx_then ?_
                  refine gc_cond_t rfl ?_
                  refine gc_seq ?_
                  refine gc_region ?_
                  refine gl_op (op_rd rfl (rd_move rfl) ?_)
                  refine gl_op (op_rd rfl (rd_move rfl) ?_)
                  refine gl_op (op_callMT [_, _, _, _, _, _, _] T [0] [1, 2, 3, 4, 5, 6] 7 rfl rfl rfl (vf := []) (vc := []) rfl rfl Try.call50 (by decide) (by decide) rfl (fun w how hc => stopped_ok [] bs bf bm id num fb1 e1 _ w hc) ?_)
                  rintro _ _ ⟨rfl, rfl⟩
                  refine gl_op (op_rd rfl (rd_assign rfl) ?_)
                  refine gl_nil ?_
                  refine gx_then ?_
                  refine gc_ret ?_
                  refine gx_then_ret ?_
                  refine gx_then_ret ?_
                  refine gx_ret1S (.inl rfl) Try.results17 rfl (sub_tail (A := [_, _, _, _, _]) (B := [_, _, _, _, _, _, _]) (T := T) [0, 1, 2, 3, 4] 7 (by decide) (by decide) rfl rfl) ?_
                  exact .inr (.inr ⟨by omega, hnf, e1, f1, m1, nb1, fb1, num, stopId e1 id, T, rfl, .inr ⟨hno, e1, f1, plain m1, fb1, hcl, .inl ⟨h71, rfl, rfl, rfl, rfl, rfl, rfl⟩⟩, hm1, (fun _ h => h), hf1, hl1, by omega, rfl⟩)
                · skip
                  refine gl_nil ?_
                  refine gx_then ?_
                  refine gc_cond_f rfl ?_
                  refine gc_skip ?_
                  refine gx_then ?_
                  refine gc_seq ?_
                  refine gc_region ?_
                  refine gl_op (op_rd rfl (rd_move rfl) ?_)
                  refine gl_op (op_call rfl (vf := []) (vc := []) rfl rfl Try.call48 (fun w1 ho => room_r (gb := gb) (room_q f1 hf1 bs bf gb cb rp cp id bm num fb1 w1 (ho.blkCells 0 rfl) (ho.blkCells 2 rfl) (ho.rowSl 3 rfl) (by omega))) ?_)
                  rintro _ _ (⟨bk, sl, rfl, hroom, rfl⟩ | ⟨bk, sl, rfl, hno2, rfl⟩)
                  · skip
                    refine gl_op (op_rd rfl (rd_move rfl) ?_)
                    refine gl_op (op_rd rfl (rd_extract rfl rfl) ?_)
                    refine gl_op (op_rd rfl (rd_extract rfl rfl) ?_)
                    first | refine gl_op (op_storeAgg 0 ty_94 rfl rfl rfl rfl rfl rfl (by first | rfl | (simp only [List.set_cons_succ, List.set_cons_zero]; exact rfl)) ?_) | refine gl_op (op_storeAgg 2 ty_94 rfl rfl rfl rfl rfl rfl (by first | rfl | (simp only [List.set_cons_succ, List.set_cons_zero]; exact rfl)) ?_) | refine gl_op (op_storeAgg 5 ty_94 rfl rfl rfl rfl rfl rfl (by first | rfl | (simp only [List.set_cons_succ, List.set_cons_zero]; exact rfl)) ?_) | refine gl_op (op_storeAgg 6 ty_94 rfl rfl rfl rfl rfl rfl (by first | rfl | (simp only [List.set_cons_succ, List.set_cons_zero]; exact rfl)) ?_) | refine gl_op (op_storeRowAgg 3 ty_94 rfl rfl rfl rfl rfl (by simp; omega) (by first | rfl | (simp only [List.set_cons_succ, List.set_cons_zero]; exact rfl)) ?_) | refine gl_op (op_storeRowAgg 4 ty_94 rfl rfl rfl rfl rfl (by simp; omega) (by first | rfl | (simp only [List.set_cons_succ, List.set_cons_zero]; exact rfl)) ?_)
                    refine gl_op (op_rd rfl (rd_assign rfl) ?_)
                    refine gl_nil ?_
                    refine gx_then ?_
                    refine gc_seq ?_
                    refine gc_region ?_
                    refine gl_op (op_rd rfl (rd_move rfl) ?_)
                    refine gl_op (op_rd rfl (rd_not rfl) ?_)
                    refine gl_nil ?_
                    refine gx_then ?_
                    refine gc_cond_f rfl ?_
                    refine gc_skip ?_
                    refine gx_then ?_
                    refine gc_seq ?_
                    refine gc_drawP [0, 1, 2, 3, 4, 5, 6] false 10 rfl ?_
                    refine ga_first 0 #[true, false, false, false, false, false, false, false, false, false, false] rfl rfl rfl rfl (by kernel_rfl) rfl ⟨[0, 1, 2, 3, 4, 5, 6], by decide, rfl⟩ (qt_rd (rd_move rfl)) ?_
                    refine ga_first 1 #[true, true, false, false, false, false, false, false, false, false, false] rfl rfl rfl rfl (by kernel_rfl) rfl ⟨[0, 1, 2, 3, 4, 5, 6], by decide, rfl⟩ (qt_rd (rd_move rfl)) ?_
                    refine ga_first 2 #[true, true, true, false, false, false, false, false, false, false, false] rfl rfl rfl rfl (by kernel_rfl) rfl ⟨[0, 1, 2, 3, 4, 5, 6], by decide, rfl⟩ (qt_rd (rd_nilCheck rfl)) ?_
                    refine ga_first 3 #[true, true, true, true, false, false, false, false, false, false, false] rfl rfl rfl rfl (by kernel_rfl) rfl ⟨[0, 1, 2, 3, 4, 5, 6], by decide, rfl⟩ (qt_rd (rd_fieldAddr rfl (fa_81_4 _))) ?_
                    refine ga_first 4 #[true, true, true, true, true, false, false, false, false, false, false] rfl rfl rfl rfl (by kernel_rfl) rfl ⟨[0, 1, 2, 3, 4, 5, 6], by decide, rfl⟩ (qt_rd (rd_load Try.underlying79 rfl rfl (by first | exact ld_blk 0 rfl rfl | exact ld_blk 2 rfl rfl | exact ld_blk 5 rfl rfl | exact ld_blk 6 rfl rfl | exact ld_old (by assumption) (by simp) | exact ld_cells (by assumption) (by simp) rfl))) ?_
                    refine ga_first 5 #[true, true, true, true, true, true, false, false, false, false, false] rfl rfl rfl rfl (by kernel_rfl) rfl ⟨[0, 1, 2, 3, 4, 5, 6], by decide, rfl⟩ (qt_rd (rd_add32 (b := 1) rfl rfl (by omega))) ?_
                    refine ga_first 6 #[true, true, true, true, true, true, true, false, false, false, false] rfl rfl rfl rfl (by kernel_rfl) rfl ⟨[0, 1, 2, 3, 4, 5, 6], by decide, rfl⟩ (qt_rd (rd_move rfl)) ?_
                    refine ga_two 7 9 #[true, true, true, true, true, true, true, true, false, false, false] #[true, true, true, true, true, true, true, false, false, true, false] rfl rfl rfl rfl (by kernel_rfl) rfl rfl (.inr ⟨[0, 1, 2, 3, 4, 5, 6], by decide, rfl⟩) ?_ ?_
                    · skip
                      refine (op_call rfl (vf := []) (vc := []) rfl rfl Try.call42 (fun w2 ho => Clone_ok vs a ca w2 (hsl.at ho) (by omega)) ?_)
                      rintro _ _ ⟨rv, cv, rfl, rfl⟩
                      refine ga_first 8 #[true, true, true, true, true, true, true, true, true, false, false] rfl rfl rfl rfl (by kernel_rfl) rfl ⟨[1, 2, 3, 4, 5, 6, 7], by decide, rfl⟩ (qt_rd (rd_build rfl (fun _ => bd_92_0_1_2 _ _ _ _ _))) ?_
                      refine ga_only 9 #[true, true, true, true, true, true, true, true, true, true, false] rfl rfl (by kernel_rfl) rfl (.inr ⟨[1, 2, 3, 4, 5, 6, 7], by decide, rfl⟩) (op_alloc ty_92 rfl rfl (fun b13 => ?_))
                      first | refine ga_only 10 #[true, true, true, true, true, true, true, true, true, true, true] rfl rfl (by kernel_rfl) rfl (.inr ⟨[2, 3, 4, 5, 6, 7, 8], by decide, rfl⟩) (op_storeAgg 0 ty_92 rfl rfl rfl rfl rfl rfl (by first | rfl | (simp only [List.set_cons_succ, List.set_cons_zero]; exact rfl)) ?_) | refine ga_only 10 #[true, true, true, true, true, true, true, true, true, true, true] rfl rfl (by kernel_rfl) rfl (.inr ⟨[2, 3, 4, 5, 6, 7, 8], by decide, rfl⟩) (op_storeAgg 2 ty_92 rfl rfl rfl rfl rfl rfl (by first | rfl | (simp only [List.set_cons_succ, List.set_cons_zero]; exact rfl)) ?_) | refine ga_only 10 #[true, true, true, true, true, true, true, true, true, true, true] rfl rfl (by kernel_rfl) rfl (.inr ⟨[2, 3, 4, 5, 6, 7, 8], by decide, rfl⟩) (op_storeAgg 4 ty_92 rfl rfl rfl rfl rfl rfl (by first | rfl | (simp only [List.set_cons_succ, List.set_cons_zero]; exact rfl)) ?_) | refine ga_only 10 #[true, true, true, true, true, true, true, true, true, true, true] rfl rfl (by kernel_rfl) rfl (.inr ⟨[2, 3, 4, 5, 6, 7, 8], by decide, rfl⟩) (op_storeAgg 7 ty_92 rfl rfl rfl rfl rfl rfl (by first | rfl | (simp only [List.set_cons_succ, List.set_cons_zero]; exact rfl)) ?_) | refine ga_only 10 #[true, true, true, true, true, true, true, true, true, true, true] rfl rfl (by kernel_rfl) rfl (.inr ⟨[2, 3, 4, 5, 6, 7, 8], by decide, rfl⟩) (op_storeAgg 8 ty_92 rfl rfl rfl rfl rfl rfl (by first | rfl | (simp only [List.set_cons_succ, List.set_cons_zero]; exact rfl)) ?_) | refine ga_only 10 #[true, true, true, true, true, true, true, true, true, true, true] rfl rfl (by kernel_rfl) rfl (.inr ⟨[2, 3, 4, 5, 6, 7, 8], by decide, rfl⟩) (op_storeRowAgg 1 ty_92 rfl rfl rfl rfl rfl (by simp; omega) (by first | rfl | (simp only [List.set_cons_succ, List.set_cons_zero]; exact rfl)) ?_) | refine ga_only 10 #[true, true, true, true, true, true, true, true, true, true, true] rfl rfl (by kernel_rfl) rfl (.inr ⟨[2, 3, 4, 5, 6, 7, 8], by decide, rfl⟩) (op_storeRowAgg 5 ty_92 rfl rfl rfl rfl rfl (by simp; omega) (by first | rfl | (simp only [List.set_cons_succ, List.set_cons_zero]; exact rfl)) ?_) | refine ga_only 10 #[true, true, true, true, true, true, true, true, true, true, true] rfl rfl (by kernel_rfl) rfl (.inr ⟨[2, 3, 4, 5, 6, 7, 8], by decide, rfl⟩) (op_storeRowAgg 6 ty_92 rfl rfl rfl rfl rfl (by simp; omega) (by first | rfl | (simp only [List.set_cons_succ, List.set_cons_zero]; exact rfl)) ?_)
                      refine ga_end (by kernel_rfl) (.inl (by kernel_rfl)) ?_
                      refine gx_then ?_
                      refine gc_seq ?_
                      refine gc_seq ?_
                      have hbkn := hroom.hbk
                      have hslt := hroom.hsl
                      have hplt := pack_lt (num := num + 1) (show key < 65536 by omega) hvs hv16
                      have hp24 := pack_len (key := key) (num := num + 1) hv16
                      obtain ⟨w1, w2, w3, w4, w5⟩ := wr_ok hf1 (o := bk * 256 + sl * 24) hplt (packP key (num + 1) vs).length (by omega)
                      rw [show wrTo f1 (bk * 256 + sl * 24) (packP key (num + 1) vs) (packP key (num + 1) vs).length = writeP f1 (bk * 256 + sl * 24) (packP key (num + 1) vs) from rfl] at w1 w2 w3 w4 w5
                      rw [hp24] at w2
                      refine gc_drawP [0, 1, 3, 7, 8] true 5 rfl ?_
                      refine ga_first 0 #[true, false, false, false, false, false] rfl rfl rfl rfl (by kernel_rfl) rfl ⟨[0, 1, 3, 7, 8], by decide, rfl⟩ (qt_rd (rd_move rfl)) ?_
                      refine ga_first 1 #[true, true, false, false, false, false] rfl rfl rfl rfl (by kernel_rfl) rfl ⟨[0, 1, 3, 7, 8], by decide, rfl⟩ (qt_rd (rd_loadAgg Try.underlying94 rfl ty_94 rfl (by first | exact cs_blk 0 (off := 0) (k := 2) rfl rfl | exact cs_blk 3 (off := 0) (k := 2) rfl rfl | exact cs_blk 4 (off := 0) (k := 2) rfl rfl | exact cs_old (by assumption) (by simp)) rfl)) ?_
                      refine ga_first 2 #[true, true, true, false, false, false] rfl rfl rfl rfl (by kernel_rfl) rfl ⟨[0, 1, 3, 7, 8], by decide, rfl⟩ (qt_rd (rd_loadAgg Try.underlying92 rfl ty_92 rfl (by first | exact cs_blk 0 (off := 0) (k := 3) rfl rfl | exact cs_blk 3 (off := 0) (k := 3) rfl rfl | exact cs_blk 4 (off := 0) (k := 3) rfl rfl | exact cs_old (by assumption) (by simp)) rfl)) ?_
                      refine ga_only 3 #[true, true, true, true, false, false] rfl rfl (by kernel_rfl) rfl (.inr ⟨[0, 1, 3, 7, 8], by decide, rfl⟩) (op_call rfl (vf := []) (vc := []) rfl rfl Try.call52 (fun w2 ho => pack_all ⟨⟨key, num + 1, vs, bk, sl⟩, rv, cv⟩ ⟨hkey, hnum, hv16, hvs, (by simp only; omega), (by simp only; omega)⟩ (num + 1) hnum w2 (ho.rowSl 1 rfl) (row_nil (x := ⟨⟨key, num + 1, vs, bk, sl⟩, rv, cv⟩) ho (List.mem_of_getElem? (i := 1) rfl))) ?_)
                      rintro _ _ ⟨rr, cr, rfl, rfl⟩
                      refine ga_only 4 #[true, true, true, true, true, false] rfl rfl (by kernel_rfl) rfl (.inr ⟨[1, 2, 4, 8, 9], by decide, rfl⟩) (op_callMT [_, _, _, _, _, _, _, _, _, _] T [3, 5, 6, 7] [0, 1, 2, 4, 8, 9] 10 rfl rfl rfl (vf := []) (vc := []) rfl rfl Try.call51 (by decide) (by decide) rfl (fun w how hc => write_ok f1 hf1 bs bf (some gb) cb rp cp id bm num fb1 _ w hc (by omega) bk sl (by have := hroom.hbk; omega) hroom.hsl (packP key (num + 1) vs) hplt hp24 (some ⟨rr, 0, none⟩) 24 (rowOut how 0 [3, 5, 6, 7] rfl (by decide))) ?_)
                      rintro _ _ ⟨rfl, rfl⟩
                      refine ga_first 5 #[true, true, true, true, true, true] rfl rfl rfl rfl (by kernel_rfl) rfl ⟨[5, 6, 7, 8, 9], by decide, rfl⟩ (qt_rd (rd_assign rfl)) ?_
                      refine ga_end (by kernel_rfl) (.inr ⟨[5, 6, 7, 8, 9], by decide, rfl⟩) ?_
                      refine gx_then ?_
                      refine gc_seq ?_
                      refine gc_region ?_
                      refine gl_op (op_rd rfl (rd_move rfl) ?_)
                      refine gl_op (op_rd rfl (rd_neq rfl rfl) (gk_dec (fun h97 => ?_) (fun h97 => ?_)))
                      · skip
                        refine gl_nil ?_
                        refine gx_then ?_
                        refine gc_cond_t rfl ?_
                        refine gc_seq ?_
                        refine gc_region ?_
                        refine gl_op (op_rd rfl (rd_move rfl) ?_)
                        refine gl_op (op_rd rfl (rd_move rfl) ?_)
                        refine gl_op (op_callMT [_, _, _, _, _, _, _, _, _, _] T [0] [1, 2, 3, 4, 5, 6, 7, 8, 9] 10 rfl rfl rfl (vf := []) (vc := []) rfl rfl Try.call50 (by decide) (by decide) rfl (fun w how hc => stopped_ok [] bs bf bm id num fb1 (writeP f1 (bk * 256 + sl * 24) (packP key (num + 1) vs)).2 _ w hc) ?_)
                        rintro _ _ ⟨rfl, rfl⟩
                        refine gl_op (op_rd rfl (rd_assign rfl) ?_)
                        refine gl_nil ?_
                        refine gx_then ?_
                        refine gc_ret ?_
                        refine gx_then_ret ?_
                        refine gx_ret1S (.inl rfl) Try.results17 rfl (sub_tail (A := [_, _, _, _, _]) (B := [_, _, _, _, _, _, _, _, _, _]) (T := T) [0, 7, 1, 2, 3] 10 (by decide) (by decide) rfl rfl) ?_
                        exact .inr (.inr ⟨by omega, hnf, (writeP f1 (bk * 256 + sl * 24) (packP key (num + 1) vs)).2, (writeP f1 (bk * 256 + sl * 24) (packP key (num + 1) vs)).1, m1, nb1, fb1, num, stopId (writeP f1 (bk * 256 + sl * 24) (packP key (num + 1) vs)).2 id, T, rfl, .inr ⟨hno, e1, f1, plain m1, fb1, hcl, .inr (.inr ⟨by omega, ⟨bk, sl, hroom, rfl, rfl, .inl ⟨h97, rfl, rfl, rfl⟩⟩, rfl⟩)⟩, hm1, (fun _ h => h), w1, by omega, by omega, rfl⟩)
                      · skip
                        refine gl_nil ?_
                        refine gx_then ?_
                        refine gc_cond_f rfl ?_
                        refine gc_skip ?_
                        refine gx_then ?_
                        refine gc_seq ?_
                        refine gc_region ?_
                        refine gl_op (op_rd rfl (rd_move rfl) ?_)
                        refine gl_op (op_rd rfl (rd_nilCheck rfl) ?_)
                        refine gl_op (op_rd rfl (rd_fieldAddr rfl (fa_81_4 _)) ?_)
                        refine gl_op (op_rd rfl (rd_load Try.underlying79 rfl rfl (by first | exact ld_blk 0 rfl rfl | exact ld_blk 1 rfl rfl | exact ld_blk 5 rfl rfl | exact ld_blk 8 rfl rfl | exact ld_blk 9 rfl rfl | exact ld_old (by assumption) (by simp) | exact ld_cells (by assumption) (by simp) rfl)) ?_)
                        refine gl_op (op_rd rfl (rd_add32 (b := 1) rfl rfl (by omega)) ?_)
                        refine gl_op (op_rd rfl (rd_nilCheck rfl) ?_)
                        refine gl_op (op_rd rfl (rd_fieldAddr rfl (fa_81_4 _)) ?_)
                        first | refine gl_op (op_store 0 ty_79 rfl rfl rfl rfl rfl (by first | rfl | (simp only [List.set_cons_succ, List.set_cons_zero]; exact rfl)) (by first | rfl | (simp only [List.set_cons_succ, List.set_cons_zero]; exact rfl)) ?_) | refine gl_op (op_store 1 ty_79 rfl rfl rfl rfl rfl (by first | rfl | (simp only [List.set_cons_succ, List.set_cons_zero]; exact rfl)) (by first | rfl | (simp only [List.set_cons_succ, List.set_cons_zero]; exact rfl)) ?_) | refine gl_op (op_store 5 ty_79 rfl rfl rfl rfl rfl (by first | rfl | (simp only [List.set_cons_succ, List.set_cons_zero]; exact rfl)) (by first | rfl | (simp only [List.set_cons_succ, List.set_cons_zero]; exact rfl)) ?_) | refine gl_op (op_store 8 ty_79 rfl rfl rfl rfl rfl (by first | rfl | (simp only [List.set_cons_succ, List.set_cons_zero]; exact rfl)) (by first | rfl | (simp only [List.set_cons_succ, List.set_cons_zero]; exact rfl)) ?_) | refine gl_op (op_store 9 ty_79 rfl rfl rfl rfl rfl (by first | rfl | (simp only [List.set_cons_succ, List.set_cons_zero]; exact rfl)) (by first | rfl | (simp only [List.set_cons_succ, List.set_cons_zero]; exact rfl)) ?_) | refine gl_op (op_storeRow 2 ty_79 rfl rfl rfl rfl (by simp; omega) (by first | rfl | (simp only [List.set_cons_succ, List.set_cons_zero]; exact rfl)) ?_) | refine gl_op (op_storeRow 3 ty_79 rfl rfl rfl rfl (by simp; omega) (by first | rfl | (simp only [List.set_cons_succ, List.set_cons_zero]; exact rfl)) ?_) | refine gl_op (op_storeRow 4 ty_79 rfl rfl rfl rfl (by simp; omega) (by first | rfl | (simp only [List.set_cons_succ, List.set_cons_zero]; exact rfl)) ?_) | refine gl_op (op_storeRow 6 ty_79 rfl rfl rfl rfl (by simp; omega) (by first | rfl | (simp only [List.set_cons_succ, List.set_cons_zero]; exact rfl)) ?_)
                        refine gl_nil ?_
                        refine gx_then ?_
                        refine gc_seq ?_
                        refine gc_drawP [0, 1, 2, 3, 4, 5, 6, 8, 9] false 8 rfl ?_
                        refine ga_first 0 #[true, false, false, false, false, false, false, false, false] rfl rfl rfl rfl (by kernel_rfl) rfl ⟨[0, 1, 2, 3, 4, 5, 6, 8, 9], by decide, rfl⟩ (qt_rd (rd_move rfl)) ?_
                        refine ga_first 1 #[true, true, false, false, false, false, false, false, false] rfl rfl rfl rfl (by kernel_rfl) rfl ⟨[0, 1, 2, 3, 4, 5, 6, 8, 9], by decide, rfl⟩ (qt_rd (rd_nilCheck rfl)) ?_
                        refine ga_first 2 #[true, true, true, false, false, false, false, false, false] rfl rfl rfl rfl (by kernel_rfl) rfl ⟨[0, 1, 2, 3, 4, 5, 6, 8, 9], by decide, rfl⟩ (qt_rd (rd_fieldAddr rfl (fa_81_3 _))) ?_
                        refine ga_first 3 #[true, true, true, true, false, false, false, false, false] rfl rfl rfl rfl (by kernel_rfl) rfl ⟨[0, 1, 2, 3, 4, 5, 6, 8, 9], by decide, rfl⟩ (qt_rd (rd_load Try.underlying78 rfl rfl (by first | exact ld_blk 0 rfl rfl | exact ld_blk 1 rfl rfl | exact ld_blk 5 rfl rfl | exact ld_blk 7 rfl rfl | exact ld_blk 8 rfl rfl | exact ld_old (by assumption) (by simp) | exact ld_cells (by assumption) (by simp) rfl))) ?_
                        refine ga_first 4 #[true, true, true, true, true, false, false, false, false] rfl rfl rfl rfl (by kernel_rfl) rfl ⟨[0, 1, 2, 3, 4, 5, 6, 8, 9], by decide, rfl⟩ (qt_rd (rd_move rfl)) ?_
                        refine ga_first 5 #[true, true, true, true, true, true, false, false, false] rfl rfl rfl rfl (by kernel_rfl) rfl ⟨[0, 1, 2, 3, 4, 5, 6, 8, 9], by decide, rfl⟩ (qt_rd (rd_loadAgg Try.underlying92 rfl ty_92 rfl (by first | exact cs_blk 0 (off := 0) (k := 3) rfl rfl | exact cs_blk 1 (off := 0) (k := 3) rfl rfl | exact cs_blk 5 (off := 0) (k := 3) rfl rfl | exact cs_blk 7 (off := 0) (k := 3) rfl rfl | exact cs_blk 8 (off := 0) (k := 3) rfl rfl | exact cs_old (by assumption) (by simp)) rfl)) ?_
                        refine ga_first 6 #[true, true, true, true, true, true, true, false, false] rfl rfl rfl rfl (by kernel_rfl) rfl ⟨[0, 1, 2, 3, 4, 5, 6, 8, 9], by decide, rfl⟩ (qt_rd (rd_loadAgg Try.underlying94 rfl ty_94 rfl (by first | exact cs_blk 0 (off := 0) (k := 2) rfl rfl | exact cs_blk 1 (off := 0) (k := 2) rfl rfl | exact cs_blk 5 (off := 0) (k := 2) rfl rfl | exact cs_blk 7 (off := 0) (k := 2) rfl rfl | exact cs_blk 8 (off := 0) (k := 2) rfl rfl | exact cs_old (by assumption) (by simp)) rfl)) ?_
                        refine ga_first 7 #[true, true, true, true, true, true, true, true, false] rfl rfl rfl rfl (by kernel_rfl) rfl ⟨[0, 1, 2, 3, 4, 5, 6, 8, 9], by decide, rfl⟩ (qt_rd (rd_build rfl (fun _ => bd_96_0_1 _ _ _ _ _ _ _))) ?_
                        refine ga_only 8 #[true, true, true, true, true, true, true, true, true] rfl rfl (by kernel_rfl) rfl (.inr ⟨[0, 1, 2, 3, 4, 5, 6, 8, 9], by decide, rfl⟩) (op_mapPutM 7 HV (v := ⟨⟨key, num + 1, vs, bk, sl⟩, rv, cv⟩) Try.underlying78 Try.underlying3 rfl rfl rfl rfl rfl ?_)
                        refine ga_end (by kernel_rfl) (.inl (by kernel_rfl)) ?_
                        refine gx_then ?_
                        refine gc_seq ?_
                        refine gc_region ?_
                        refine gl_op (op_rd rfl (rd_assign rfl) ?_)
                        refine gl_nil ?_
                        refine gx_then ?_
                        refine gc_ret ?_
                        have hw0 : (writeP f1 (bk * 256 + sl * 24) (packP key (num + 1) vs)).2 = 0 := Decidable.byContradiction h97
                        have hen2 : EnOk ⟨key, num + 1, vs, bk, sl⟩ := ⟨hkey, hnum, hv16, hvs, (by have := hroom.hbk; simp only; omega), hroom.hsl⟩
                        refine gx_ret1S (.inl rfl) Try.results17 rfl (sub_tail (A := [_, _, _, _, _, _]) (B := [_, _, _, _, _, _, _, _, _, _]) (T := T) [0, 7, 1, 2, 3, 6] 10 (by decide) (by decide) rfl rfl) ?_
                        exact .inr (.inr ⟨by omega, hnf, 0, (writeP f1 (bk * 256 + sl * 24) (packP key (num + 1) vs)).1, mput ((key : Nat) : Int) ⟨⟨key, num + 1, vs, bk, sl⟩, rv, cv⟩ nb1 m1, mnb ((key : Nat) : Int) m1 nb1, fb1, num + 1, id, He.row ⟨⟨key, num + 1, vs, bk, sl⟩, rv, cv⟩ :: T, rfl, .inr ⟨hno, e1, f1, plain m1, fb1, hcl, .inr (.inr ⟨by omega, ⟨bk, sl, hroom, rfl, hw0.symm, .inr ⟨rfl, pput_m ⟨⟨key, num + 1, vs, bk, sl⟩, rv, cv⟩ nb1 hm1.key, rfl, rfl⟩⟩, rfl⟩)⟩, hm1.put ⟨⟨key, num + 1, vs, bk, sl⟩, rv, cv⟩ hen2 (fun y hy => List.mem_cons_of_mem _ hy) List.mem_cons_self, (fun y hy => List.mem_cons_of_mem _ hy), w1, by omega, by omega, rfl⟩)
                    · skip
                      refine (op_alloc ty_92 rfl rfl (fun b13 => ?_))
                      refine ga_only 7 #[true, true, true, true, true, true, true, true, false, true, false] rfl rfl (by kernel_rfl) rfl (.inr ⟨[1, 2, 3, 4, 5, 6, 7], by decide, rfl⟩) (op_call rfl (vf := []) (vc := []) rfl rfl Try.call42 (fun w2 ho => Clone_ok vs a ca w2 (hsl.at ho) (by omega)) ?_)
                      rintro _ _ ⟨rv, cv, rfl, rfl⟩
                      refine ga_first 8 #[true, true, true, true, true, true, true, true, true, true, false] rfl rfl rfl rfl (by kernel_rfl) rfl ⟨[2, 3, 4, 5, 6, 7, 8], by decide, rfl⟩ (qt_rd (rd_build rfl (fun _ => bd_92_0_1_2 _ _ _ _ _))) ?_
                      first | refine ga_only 10 #[true, true, true, true, true, true, true, true, true, true, true] rfl rfl (by kernel_rfl) rfl (.inr ⟨[2, 3, 4, 5, 6, 7, 8], by decide, rfl⟩) (op_storeAgg 1 ty_92 rfl rfl rfl rfl rfl rfl (by first | rfl | (simp only [List.set_cons_succ, List.set_cons_zero]; exact rfl)) ?_) | refine ga_only 10 #[true, true, true, true, true, true, true, true, true, true, true] rfl rfl (by kernel_rfl) rfl (.inr ⟨[2, 3, 4, 5, 6, 7, 8], by decide, rfl⟩) (op_storeAgg 2 ty_92 rfl rfl rfl rfl rfl rfl (by first | rfl | (simp only [List.set_cons_succ, List.set_cons_zero]; exact rfl)) ?_) | refine ga_only 10 #[true, true, true, true, true, true, true, true, true, true, true] rfl rfl (by kernel_rfl) rfl (.inr ⟨[2, 3, 4, 5, 6, 7, 8], by decide, rfl⟩) (op_storeAgg 4 ty_92 rfl rfl rfl rfl rfl rfl (by first | rfl | (simp only [List.set_cons_succ, List.set_cons_zero]; exact rfl)) ?_) | refine ga_only 10 #[true, true, true, true, true, true, true, true, true, true, true] rfl rfl (by kernel_rfl) rfl (.inr ⟨[2, 3, 4, 5, 6, 7, 8], by decide, rfl⟩) (op_storeAgg 7 ty_92 rfl rfl rfl rfl rfl rfl (by first | rfl | (simp only [List.set_cons_succ, List.set_cons_zero]; exact rfl)) ?_) | refine ga_only 10 #[true, true, true, true, true, true, true, true, true, true, true] rfl rfl (by kernel_rfl) rfl (.inr ⟨[2, 3, 4, 5, 6, 7, 8], by decide, rfl⟩) (op_storeAgg 8 ty_92 rfl rfl rfl rfl rfl rfl (by first | rfl | (simp only [List.set_cons_succ, List.set_cons_zero]; exact rfl)) ?_) | refine ga_only 10 #[true, true, true, true, true, true, true, true, true, true, true] rfl rfl (by kernel_rfl) rfl (.inr ⟨[2, 3, 4, 5, 6, 7, 8], by decide, rfl⟩) (op_storeRowAgg 0 ty_92 rfl rfl rfl rfl rfl (by simp; omega) (by first | rfl | (simp only [List.set_cons_succ, List.set_cons_zero]; exact rfl)) ?_) | refine ga_only 10 #[true, true, true, true, true, true, true, true, true, true, true] rfl rfl (by kernel_rfl) rfl (.inr ⟨[2, 3, 4, 5, 6, 7, 8], by decide, rfl⟩) (op_storeRowAgg 5 ty_92 rfl rfl rfl rfl rfl (by simp; omega) (by first | rfl | (simp only [List.set_cons_succ, List.set_cons_zero]; exact rfl)) ?_) | refine ga_only 10 #[true, true, true, true, true, true, true, true, true, true, true] rfl rfl (by kernel_rfl) rfl (.inr ⟨[2, 3, 4, 5, 6, 7, 8], by decide, rfl⟩) (op_storeRowAgg 6 ty_92 rfl rfl rfl rfl rfl (by simp; omega) (by first | rfl | (simp only [List.set_cons_succ, List.set_cons_zero]; exact rfl)) ?_)
                      refine ga_end (by kernel_rfl) (.inl (by kernel_rfl)) ?_
                      refine gx_then ?_
                      refine gc_seq ?_
                      refine gc_seq ?_
                      have hbkn := hroom.hbk
                      have hslt := hroom.hsl
                      have hplt := pack_lt (num := num + 1) (show key < 65536 by omega) hvs hv16
                      have hp24 := pack_len (key := key) (num := num + 1) hv16
                      obtain ⟨w1, w2, w3, w4, w5⟩ := wr_ok hf1 (o := bk * 256 + sl * 24) hplt (packP key (num + 1) vs).length (by omega)
                      rw [show wrTo f1 (bk * 256 + sl * 24) (packP key (num + 1) vs) (packP key (num + 1) vs).length = writeP f1 (bk * 256 + sl * 24) (packP key (num + 1) vs) from rfl] at w1 w2 w3 w4 w5
                      rw [hp24] at w2
                      refine gc_drawP [0, 1, 3, 7, 8] true 5 rfl ?_
                      refine ga_first 0 #[true, false, false, false, false, false] rfl rfl rfl rfl (by kernel_rfl) rfl ⟨[0, 1, 3, 7, 8], by decide, rfl⟩ (qt_rd (rd_move rfl)) ?_
                      refine ga_first 1 #[true, true, false, false, false, false] rfl rfl rfl rfl (by kernel_rfl) rfl ⟨[0, 1, 3, 7, 8], by decide, rfl⟩ (qt_rd (rd_loadAgg Try.underlying94 rfl ty_94 rfl (by first | exact cs_blk 1 (off := 0) (k := 2) rfl rfl | exact cs_blk 3 (off := 0) (k := 2) rfl rfl | exact cs_blk 4 (off := 0) (k := 2) rfl rfl | exact cs_old (by assumption) (by simp)) rfl)) ?_
                      refine ga_first 2 #[true, true, true, false, false, false] rfl rfl rfl rfl (by kernel_rfl) rfl ⟨[0, 1, 3, 7, 8], by decide, rfl⟩ (qt_rd (rd_loadAgg Try.underlying92 rfl ty_92 rfl (by first | exact cs_blk 1 (off := 0) (k := 3) rfl rfl | exact cs_blk 3 (off := 0) (k := 3) rfl rfl | exact cs_blk 4 (off := 0) (k := 3) rfl rfl | exact cs_old (by assumption) (by simp)) rfl)) ?_
                      refine ga_only 3 #[true, true, true, true, false, false] rfl rfl (by kernel_rfl) rfl (.inr ⟨[0, 1, 3, 7, 8], by decide, rfl⟩) (op_call rfl (vf := []) (vc := []) rfl rfl Try.call52 (fun w2 ho => pack_all ⟨⟨key, num + 1, vs, bk, sl⟩, rv, cv⟩ ⟨hkey, hnum, hv16, hvs, (by simp only; omega), (by simp only; omega)⟩ (num + 1) hnum w2 (ho.rowSl 0 rfl) (row_nil (x := ⟨⟨key, num + 1, vs, bk, sl⟩, rv, cv⟩) ho (List.mem_of_getElem? (i := 0) rfl))) ?_)
                      rintro _ _ ⟨rr, cr, rfl, rfl⟩
                      refine ga_only 4 #[true, true, true, true, true, false] rfl rfl (by kernel_rfl) rfl (.inr ⟨[1, 2, 4, 8, 9], by decide, rfl⟩) (op_callMT [_, _, _, _, _, _, _, _, _, _] T [3, 5, 6, 7] [0, 1, 2, 4, 8, 9] 10 rfl rfl rfl (vf := []) (vc := []) rfl rfl Try.call51 (by decide) (by decide) rfl (fun w how hc => write_ok f1 hf1 bs bf (some gb) cb rp cp id bm num fb1 _ w hc (by omega) bk sl (by have := hroom.hbk; omega) hroom.hsl (packP key (num + 1) vs) hplt hp24 (some ⟨rr, 0, none⟩) 24 (rowOut how 0 [3, 5, 6, 7] rfl (by decide))) ?_)
                      rintro _ _ ⟨rfl, rfl⟩
                      refine ga_first 5 #[true, true, true, true, true, true] rfl rfl rfl rfl (by kernel_rfl) rfl ⟨[5, 6, 7, 8, 9], by decide, rfl⟩ (qt_rd (rd_assign rfl)) ?_
                      refine ga_end (by kernel_rfl) (.inr ⟨[5, 6, 7, 8, 9], by decide, rfl⟩) ?_
                      refine gx_then ?_
                      refine gc_seq ?_
                      refine gc_region ?_
                      refine gl_op (op_rd rfl (rd_move rfl) ?_)
                      refine gl_op (op_rd rfl (rd_neq rfl rfl) (gk_dec (fun h97 => ?_) (fun h97 => ?_)))
                      · skip
                        refine gl_nil ?_
                        refine gx_then ?_
                        refine gc_cond_t rfl ?_
                        refine gc_seq ?_
                        refine gc_region ?_
                        refine gl_op (op_rd rfl (rd_move rfl) ?_)
                        refine gl_op (op_rd rfl (rd_move rfl) ?_)
                        refine gl_op (op_callMT [_, _, _, _, _, _, _, _, _, _] T [0] [1, 2, 3, 4, 5, 6, 7, 8, 9] 10 rfl rfl rfl (vf := []) (vc := []) rfl rfl Try.call50 (by decide) (by decide) rfl (fun w how hc => stopped_ok [] bs bf bm id num fb1 (writeP f1 (bk * 256 + sl * 24) (packP key (num + 1) vs)).2 _ w hc) ?_)
                        rintro _ _ ⟨rfl, rfl⟩
                        refine gl_op (op_rd rfl (rd_assign rfl) ?_)
                        refine gl_nil ?_
                        refine gx_then ?_
                        refine gc_ret ?_
                        refine gx_then_ret ?_
                        refine gx_ret1S (.inl rfl) Try.results17 rfl (sub_tail (A := [_, _, _, _, _]) (B := [_, _, _, _, _, _, _, _, _, _]) (T := T) [0, 7, 1, 2, 3] 10 (by decide) (by decide) rfl rfl) ?_
                        exact .inr (.inr ⟨by omega, hnf, (writeP f1 (bk * 256 + sl * 24) (packP key (num + 1) vs)).2, (writeP f1 (bk * 256 + sl * 24) (packP key (num + 1) vs)).1, m1, nb1, fb1, num, stopId (writeP f1 (bk * 256 + sl * 24) (packP key (num + 1) vs)).2 id, T, rfl, .inr ⟨hno, e1, f1, plain m1, fb1, hcl, .inr (.inr ⟨by omega, ⟨bk, sl, hroom, rfl, rfl, .inl ⟨h97, rfl, rfl, rfl⟩⟩, rfl⟩)⟩, hm1, (fun _ h => h), w1, by omega, by omega, rfl⟩)
                      · skip
                        refine gl_nil ?_
                        refine gx_then ?_
                        refine gc_cond_f rfl ?_
                        refine gc_skip ?_
                        refine gx_then ?_
                        refine gc_seq ?_
                        refine gc_region ?_
                        refine gl_op (op_rd rfl (rd_move rfl) ?_)
                        refine gl_op (op_rd rfl (rd_nilCheck rfl) ?_)
                        refine gl_op (op_rd rfl (rd_fieldAddr rfl (fa_81_4 _)) ?_)
                        refine gl_op (op_rd rfl (rd_load Try.underlying79 rfl rfl (by first | exact ld_blk 0 rfl rfl | exact ld_blk 1 rfl rfl | exact ld_blk 6 rfl rfl | exact ld_blk 8 rfl rfl | exact ld_blk 9 rfl rfl | exact ld_old (by assumption) (by simp) | exact ld_cells (by assumption) (by simp) rfl)) ?_)
                        refine gl_op (op_rd rfl (rd_add32 (b := 1) rfl rfl (by omega)) ?_)
                        refine gl_op (op_rd rfl (rd_nilCheck rfl) ?_)
                        refine gl_op (op_rd rfl (rd_fieldAddr rfl (fa_81_4 _)) ?_)
                        first | refine gl_op (op_store 0 ty_79 rfl rfl rfl rfl rfl (by first | rfl | (simp only [List.set_cons_succ, List.set_cons_zero]; exact rfl)) (by first | rfl | (simp only [List.set_cons_succ, List.set_cons_zero]; exact rfl)) ?_) | refine gl_op (op_store 1 ty_79 rfl rfl rfl rfl rfl (by first | rfl | (simp only [List.set_cons_succ, List.set_cons_zero]; exact rfl)) (by first | rfl | (simp only [List.set_cons_succ, List.set_cons_zero]; exact rfl)) ?_) | refine gl_op (op_store 6 ty_79 rfl rfl rfl rfl rfl (by first | rfl | (simp only [List.set_cons_succ, List.set_cons_zero]; exact rfl)) (by first | rfl | (simp only [List.set_cons_succ, List.set_cons_zero]; exact rfl)) ?_) | refine gl_op (op_store 8 ty_79 rfl rfl rfl rfl rfl (by first | rfl | (simp only [List.set_cons_succ, List.set_cons_zero]; exact rfl)) (by first | rfl | (simp only [List.set_cons_succ, List.set_cons_zero]; exact rfl)) ?_) | refine gl_op (op_store 9 ty_79 rfl rfl rfl rfl rfl (by first | rfl | (simp only [List.set_cons_succ, List.set_cons_zero]; exact rfl)) (by first | rfl | (simp only [List.set_cons_succ, List.set_cons_zero]; exact rfl)) ?_) | refine gl_op (op_storeRow 2 ty_79 rfl rfl rfl rfl (by simp; omega) (by first | rfl | (simp only [List.set_cons_succ, List.set_cons_zero]; exact rfl)) ?_) | refine gl_op (op_storeRow 3 ty_79 rfl rfl rfl rfl (by simp; omega) (by first | rfl | (simp only [List.set_cons_succ, List.set_cons_zero]; exact rfl)) ?_) | refine gl_op (op_storeRow 4 ty_79 rfl rfl rfl rfl (by simp; omega) (by first | rfl | (simp only [List.set_cons_succ, List.set_cons_zero]; exact rfl)) ?_) | refine gl_op (op_storeRow 5 ty_79 rfl rfl rfl rfl (by simp; omega) (by first | rfl | (simp only [List.set_cons_succ, List.set_cons_zero]; exact rfl)) ?_)
                        refine gl_nil ?_
                        refine gx_then ?_
                        refine gc_seq ?_
                        refine gc_drawP [0, 1, 2, 3, 4, 5, 6, 8, 9] false 8 rfl ?_
                        refine ga_first 0 #[true, false, false, false, false, false, false, false, false] rfl rfl rfl rfl (by kernel_rfl) rfl ⟨[0, 1, 2, 3, 4, 5, 6, 8, 9], by decide, rfl⟩ (qt_rd (rd_move rfl)) ?_
                        refine ga_first 1 #[true, true, false, false, false, false, false, false, false] rfl rfl rfl rfl (by kernel_rfl) rfl ⟨[0, 1, 2, 3, 4, 5, 6, 8, 9], by decide, rfl⟩ (qt_rd (rd_nilCheck rfl)) ?_
                        refine ga_first 2 #[true, true, true, false, false, false, false, false, false] rfl rfl rfl rfl (by kernel_rfl) rfl ⟨[0, 1, 2, 3, 4, 5, 6, 8, 9], by decide, rfl⟩ (qt_rd (rd_fieldAddr rfl (fa_81_3 _))) ?_
                        refine ga_first 3 #[true, true, true, true, false, false, false, false, false] rfl rfl rfl rfl (by kernel_rfl) rfl ⟨[0, 1, 2, 3, 4, 5, 6, 8, 9], by decide, rfl⟩ (qt_rd (rd_load Try.underlying78 rfl rfl (by first | exact ld_blk 0 rfl rfl | exact ld_blk 1 rfl rfl | exact ld_blk 6 rfl rfl | exact ld_blk 7 rfl rfl | exact ld_blk 8 rfl rfl | exact ld_old (by assumption) (by simp) | exact ld_cells (by assumption) (by simp) rfl))) ?_
                        refine ga_first 4 #[true, true, true, true, true, false, false, false, false] rfl rfl rfl rfl (by kernel_rfl) rfl ⟨[0, 1, 2, 3, 4, 5, 6, 8, 9], by decide, rfl⟩ (qt_rd (rd_move rfl)) ?_
                        refine ga_first 5 #[true, true, true, true, true, true, false, false, false] rfl rfl rfl rfl (by kernel_rfl) rfl ⟨[0, 1, 2, 3, 4, 5, 6, 8, 9], by decide, rfl⟩ (qt_rd (rd_loadAgg Try.underlying92 rfl ty_92 rfl (by first | exact cs_blk 0 (off := 0) (k := 3) rfl rfl | exact cs_blk 1 (off := 0) (k := 3) rfl rfl | exact cs_blk 6 (off := 0) (k := 3) rfl rfl | exact cs_blk 7 (off := 0) (k := 3) rfl rfl | exact cs_blk 8 (off := 0) (k := 3) rfl rfl | exact cs_old (by assumption) (by simp)) rfl)) ?_
                        refine ga_first 6 #[true, true, true, true, true, true, true, false, false] rfl rfl rfl rfl (by kernel_rfl) rfl ⟨[0, 1, 2, 3, 4, 5, 6, 8, 9], by decide, rfl⟩ (qt_rd (rd_loadAgg Try.underlying94 rfl ty_94 rfl (by first | exact cs_blk 0 (off := 0) (k := 2) rfl rfl | exact cs_blk 1 (off := 0) (k := 2) rfl rfl | exact cs_blk 6 (off := 0) (k := 2) rfl rfl | exact cs_blk 7 (off := 0) (k := 2) rfl rfl | exact cs_blk 8 (off := 0) (k := 2) rfl rfl | exact cs_old (by assumption) (by simp)) rfl)) ?_
                        refine ga_first 7 #[true, true, true, true, true, true, true, true, false] rfl rfl rfl rfl (by kernel_rfl) rfl ⟨[0, 1, 2, 3, 4, 5, 6, 8, 9], by decide, rfl⟩ (qt_rd (rd_build rfl (fun _ => bd_96_0_1 _ _ _ _ _ _ _))) ?_
                        refine ga_only 8 #[true, true, true, true, true, true, true, true, true] rfl rfl (by kernel_rfl) rfl (.inr ⟨[0, 1, 2, 3, 4, 5, 6, 8, 9], by decide, rfl⟩) (op_mapPutM 7 HV (v := ⟨⟨key, num + 1, vs, bk, sl⟩, rv, cv⟩) Try.underlying78 Try.underlying3 rfl rfl rfl rfl rfl ?_)
                        refine ga_end (by kernel_rfl) (.inl (by kernel_rfl)) ?_
                        refine gx_then ?_
                        refine gc_seq ?_
                        refine gc_region ?_
                        refine gl_op (op_rd rfl (rd_assign rfl) ?_)
                        refine gl_nil ?_
                        refine gx_then ?_
                        refine gc_ret ?_
                        have hw0 : (writeP f1 (bk * 256 + sl * 24) (packP key (num + 1) vs)).2 = 0 := Decidable.byContradiction h97
                        have hen2 : EnOk ⟨key, num + 1, vs, bk, sl⟩ := ⟨hkey, hnum, hv16, hvs, (by have := hroom.hbk; simp only; omega), hroom.hsl⟩
                        refine gx_ret1S (.inl rfl) Try.results17 rfl (sub_tail (A := [_, _, _, _, _, _]) (B := [_, _, _, _, _, _, _, _, _, _]) (T := T) [0, 7, 1, 2, 3, 5] 10 (by decide) (by decide) rfl rfl) ?_
                        exact .inr (.inr ⟨by omega, hnf, 0, (writeP f1 (bk * 256 + sl * 24) (packP key (num + 1) vs)).1, mput ((key : Nat) : Int) ⟨⟨key, num + 1, vs, bk, sl⟩, rv, cv⟩ nb1 m1, mnb ((key : Nat) : Int) m1 nb1, fb1, num + 1, id, He.row ⟨⟨key, num + 1, vs, bk, sl⟩, rv, cv⟩ :: T, rfl, .inr ⟨hno, e1, f1, plain m1, fb1, hcl, .inr (.inr ⟨by omega, ⟨bk, sl, hroom, rfl, hw0.symm, .inr ⟨rfl, pput_m ⟨⟨key, num + 1, vs, bk, sl⟩, rv, cv⟩ nb1 hm1.key, rfl, rfl⟩⟩, rfl⟩)⟩, hm1.put ⟨⟨key, num + 1, vs, bk, sl⟩, rv, cv⟩ hen2 (fun y hy => List.mem_cons_of_mem _ hy) List.mem_cons_self, (fun y hy => List.mem_cons_of_mem _ hy), w1, by omega, by omega, rfl⟩)
                  · skip
                    refine gl_op (op_rd rfl (rd_move rfl) ?_)
                    refine gl_op (op_rd rfl (rd_extract rfl rfl) ?_)
                    refine gl_op (op_rd rfl (rd_extract rfl rfl) ?_)
                    first | refine gl_op (op_storeAgg 0 ty_94 rfl rfl rfl rfl rfl rfl (by first | rfl | (simp only [List.set_cons_succ, List.set_cons_zero]; exact rfl)) ?_) | refine gl_op (op_storeAgg 2 ty_94 rfl rfl rfl rfl rfl rfl (by first | rfl | (simp only [List.set_cons_succ, List.set_cons_zero]; exact rfl)) ?_) | refine gl_op (op_storeAgg 5 ty_94 rfl rfl rfl rfl rfl rfl (by first | rfl | (simp only [List.set_cons_succ, List.set_cons_zero]; exact rfl)) ?_) | refine gl_op (op_storeAgg 6 ty_94 rfl rfl rfl rfl rfl rfl (by first | rfl | (simp only [List.set_cons_succ, List.set_cons_zero]; exact rfl)) ?_) | refine gl_op (op_storeRowAgg 3 ty_94 rfl rfl rfl rfl rfl (by simp; omega) (by first | rfl | (simp only [List.set_cons_succ, List.set_cons_zero]; exact rfl)) ?_) | refine gl_op (op_storeRowAgg 4 ty_94 rfl rfl rfl rfl rfl (by simp; omega) (by first | rfl | (simp only [List.set_cons_succ, List.set_cons_zero]; exact rfl)) ?_)
                    refine gl_op (op_rd rfl (rd_assign rfl) ?_)
                    refine gl_nil ?_
                    refine gx_then ?_
                    refine gc_seq ?_
                    refine gc_region ?_
                    refine gl_op (op_rd rfl (rd_move rfl) ?_)
                    refine gl_op (op_rd rfl (rd_not rfl) ?_)
                    refine gl_nil ?_
                    refine gx_then ?_
                    refine gc_cond_t rfl ?_
                    refine gc_seq ?_
                    refine gc_region ?_
                    refine gl_op (op_rd rfl (rd_assign rfl) ?_)
                    refine gl_nil ?_
                    refine gx_then ?_
                    refine gc_ret ?_
                    refine gx_then_ret ?_
                    refine gx_ret1S (.inl rfl) Try.results17 rfl (sub_tail (A := [_, _, _, _, _]) (B := [_, _, _, _, _, _, _]) (T := T) [0, 1, 2, 3, 4] 7 (by decide) (by decide) rfl rfl) ?_
                    exact .inr (.inr ⟨by omega, hnf, 6, f1, m1, nb1, fb1, num, id, T, rfl, .inr ⟨hno, e1, f1, plain m1, fb1, hcl, .inr (.inl ⟨by omega, hno2, rfl, rfl, rfl, rfl, rfl, rfl⟩)⟩, hm1, (fun _ h => h), hf1, hl1, by omega, rfl⟩)
          · skip
            refine gc_region ?_
            refine gl_op (op_rd rfl (rd_move rfl) ?_)
            refine gl_op (op_rd rfl (rd_nilCheck rfl) ?_)
            refine gl_op (op_rd rfl (rd_fieldAddr rfl (fa_81_3 _)) ?_)
            refine gl_op (op_rd rfl (rd_load Try.underlying78 rfl rfl (by first | exact ld_blk 0 rfl rfl | exact ld_blk 2 rfl rfl | exact ld_old (by assumption) (by simp) | exact ld_cells (by assumption) (by simp) rfl)) ?_)
            refine gl_op (op_rd rfl (rd_move rfl) ?_)
            refine gl_op (op_rd rfl (rd_lookupMOk 1 HV rfl Try.underlying78 Try.underlying3 ty_96 rfl rfl) ?_)
            refine gl_op (op_rd rfl (rd_move rfl) ?_)
            refine gl_op (op_rd rfl (rd_extract rfl rfl) ?_)
            refine gl_op (op_rd rfl (rd_extract rfl rfl) ?_)
            refine gl_op (op_alloc ty_96 rfl rfl (fun b8 => ?_))
            rw [hg, Option.map_some, Option.getD_some, Option.isSome_some]
            first | refine gl_op (op_storeAgg 0 ty_96 rfl rfl rfl rfl rfl rfl (by first | rfl | (simp only [List.set_cons_succ, List.set_cons_zero]; exact rfl)) ?_) | refine gl_op (op_storeAgg 1 ty_96 rfl rfl rfl rfl rfl rfl (by first | rfl | (simp only [List.set_cons_succ, List.set_cons_zero]; exact rfl)) ?_) | refine gl_op (op_storeAgg 3 ty_96 rfl rfl rfl rfl rfl rfl (by first | rfl | (simp only [List.set_cons_succ, List.set_cons_zero]; exact rfl)) ?_) | refine gl_op (op_storeRowAgg 4 ty_96 rfl rfl rfl rfl rfl (by simp; omega) (by first | rfl | (simp only [List.set_cons_succ, List.set_cons_zero]; exact rfl)) ?_) | refine gl_op (op_storeRowAgg 5 ty_96 rfl rfl rfl rfl rfl (by simp; omega) (by first | rfl | (simp only [List.set_cons_succ, List.set_cons_zero]; exact rfl)) ?_)
            refine gl_op (op_rd rfl (rd_assign rfl) ?_)
            refine gl_nil ?_
            refine gx_then ?_
            refine gc_seq ?_
            refine gc_region ?_
            refine gl_op (op_rd rfl (rd_move rfl) ?_)
            refine gl_op (op_rd rfl (rd_not rfl) ?_)
            refine gl_op (op_rd rfl (rd_move rfl) ?_)
            refine gl_no rfl rfl rfl ?_
            refine gl_no rfl rfl rfl ?_
            refine gl_no rfl rfl rfl ?_
            refine gl_no rfl rfl rfl ?_
            refine gl_no rfl rfl rfl ?_
            refine gl_no rfl rfl rfl ?_
            refine gl_no rfl rfl rfl ?_
            refine gl_no rfl rfl rfl ?_
            refine gl_op (op_rd rfl (rd_pick_f rfl rfl) ?_)
            refine gl_nil ?_
            refine gx_then ?_
            refine gc_cond_f rfl ?_
            refine gc_skip ?_
            refine gx_then ?_
            refine gc_seq ?_
            have hnf : ¬ Full (plain m) (f.b.length / 256) key := fun ⟨h1, h2⟩ => by
              rw [(hms.get hg).2.2.2] at h1; cases h1
            refine gc_region ?_
            refine gl_op (op_rd rfl (rd_move rfl) ?_)
            refine gl_op (op_call rfl (vf := []) (vc := []) rfl rfl Try.call48 (fun w1 ho => room_r (gb := gb) (room_q f hf bs bf gb cb rp cp id bm num fb w1 (ho.blkCells 1 rfl) (ho.blkCells 3 rfl) (ho.rowSl 4 rfl) (by omega))) ?_)
            rintro _ _ (⟨bk, sl, rfl, hroom, rfl⟩ | ⟨bk, sl, rfl, hno, rfl⟩)
            · skip
              refine gl_op (op_rd rfl (rd_move rfl) ?_)
              refine gl_op (op_rd rfl (rd_extract rfl rfl) ?_)
              refine gl_op (op_rd rfl (rd_extract rfl rfl) ?_)
              refine gl_op (op_alloc ty_94 rfl rfl (fun b10 => ?_))
              first | refine gl_op (op_storeAgg 0 ty_94 rfl rfl rfl rfl rfl rfl (by first | rfl | (simp only [List.set_cons_succ, List.set_cons_zero]; exact rfl)) ?_) | refine gl_op (op_storeAgg 1 ty_94 rfl rfl rfl rfl rfl rfl (by first | rfl | (simp only [List.set_cons_succ, List.set_cons_zero]; exact rfl)) ?_) | refine gl_op (op_storeAgg 2 ty_94 rfl rfl rfl rfl rfl rfl (by first | rfl | (simp only [List.set_cons_succ, List.set_cons_zero]; exact rfl)) ?_) | refine gl_op (op_storeAgg 4 ty_94 rfl rfl rfl rfl rfl rfl (by first | rfl | (simp only [List.set_cons_succ, List.set_cons_zero]; exact rfl)) ?_) | refine gl_op (op_storeRowAgg 5 ty_94 rfl rfl rfl rfl rfl (by simp; omega) (by first | rfl | (simp only [List.set_cons_succ, List.set_cons_zero]; exact rfl)) ?_) | refine gl_op (op_storeRowAgg 6 ty_94 rfl rfl rfl rfl rfl (by simp; omega) (by first | rfl | (simp only [List.set_cons_succ, List.set_cons_zero]; exact rfl)) ?_)
              refine gl_op (op_rd rfl (rd_assign rfl) ?_)
              refine gl_nil ?_
              refine gx_then ?_
              refine gc_seq ?_
              refine gc_seq ?_
              refine gc_region ?_
              refine gl_op (op_rd rfl (rd_move rfl) ?_)
              refine gl_op (op_rd rfl (rd_not rfl) ?_)
              refine gl_nil ?_
              refine gx_then ?_
              refine gc_cond_f rfl ?_
              refine gc_skip ?_
              refine gx_then ?_
              refine gc_seq ?_
              refine gc_drawP [0, 1, 2, 3, 4, 5, 6] false 10 rfl ?_
              refine ga_first 0 #[true, false, false, false, false, false, false, false, false, false, false] rfl rfl rfl rfl (by kernel_rfl) rfl ⟨[0, 1, 2, 3, 4, 5, 6], by decide, rfl⟩ (qt_rd (rd_move rfl)) ?_
              refine ga_first 1 #[true, true, false, false, false, false, false, false, false, false, false] rfl rfl rfl rfl (by kernel_rfl) rfl ⟨[0, 1, 2, 3, 4, 5, 6], by decide, rfl⟩ (qt_rd (rd_move rfl)) ?_
              refine ga_first 2 #[true, true, true, false, false, false, false, false, false, false, false] rfl rfl rfl rfl (by kernel_rfl) rfl ⟨[0, 1, 2, 3, 4, 5, 6], by decide, rfl⟩ (qt_rd (rd_nilCheck rfl)) ?_
              refine ga_first 3 #[true, true, true, true, false, false, false, false, false, false, false] rfl rfl rfl rfl (by kernel_rfl) rfl ⟨[0, 1, 2, 3, 4, 5, 6], by decide, rfl⟩ (qt_rd (rd_fieldAddr rfl (fa_81_4 _))) ?_
              refine ga_first 4 #[true, true, true, true, true, false, false, false, false, false, false] rfl rfl rfl rfl (by kernel_rfl) rfl ⟨[0, 1, 2, 3, 4, 5, 6], by decide, rfl⟩ (qt_rd (rd_load Try.underlying79 rfl rfl (by first | exact ld_blk 0 rfl rfl | exact ld_blk 1 rfl rfl | exact ld_blk 2 rfl rfl | exact ld_blk 4 rfl rfl | exact ld_old (by assumption) (by simp) | exact ld_cells (by assumption) (by simp) rfl))) ?_
              refine ga_first 5 #[true, true, true, true, true, true, false, false, false, false, false] rfl rfl rfl rfl (by kernel_rfl) rfl ⟨[0, 1, 2, 3, 4, 5, 6], by decide, rfl⟩ (qt_rd (rd_add32 (b := 1) rfl rfl (by omega))) ?_
              refine ga_first 6 #[true, true, true, true, true, true, true, false, false, false, false] rfl rfl rfl rfl (by kernel_rfl) rfl ⟨[0, 1, 2, 3, 4, 5, 6], by decide, rfl⟩ (qt_rd (rd_move rfl)) ?_
              refine ga_two 7 9 #[true, true, true, true, true, true, true, true, false, false, false] #[true, true, true, true, true, true, true, false, false, true, false] rfl rfl rfl rfl (by kernel_rfl) rfl rfl (.inr ⟨[0, 1, 2, 3, 4, 5, 6], by decide, rfl⟩) ?_ ?_
              · skip
                refine (op_call rfl (vf := []) (vc := []) rfl rfl Try.call42 (fun w2 ho => Clone_ok vs a ca w2 (hsl.at ho) (by omega)) ?_)
                rintro _ _ ⟨rv, cv, rfl, rfl⟩
                refine ga_first 8 #[true, true, true, true, true, true, true, true, true, false, false] rfl rfl rfl rfl (by kernel_rfl) rfl ⟨[1, 2, 3, 4, 5, 6, 7], by decide, rfl⟩ (qt_rd (rd_build rfl (fun _ => bd_92_0_1_2 _ _ _ _ _))) ?_
                refine ga_only 9 #[true, true, true, true, true, true, true, true, true, true, false] rfl rfl (by kernel_rfl) rfl (.inr ⟨[1, 2, 3, 4, 5, 6, 7], by decide, rfl⟩) (op_alloc ty_92 rfl rfl (fun b13 => ?_))
                first | refine ga_only 10 #[true, true, true, true, true, true, true, true, true, true, true] rfl rfl (by kernel_rfl) rfl (.inr ⟨[2, 3, 4, 5, 6, 7, 8], by decide, rfl⟩) (op_storeAgg 0 ty_92 rfl rfl rfl rfl rfl rfl (by first | rfl | (simp only [List.set_cons_succ, List.set_cons_zero]; exact rfl)) ?_) | refine ga_only 10 #[true, true, true, true, true, true, true, true, true, true, true] rfl rfl (by kernel_rfl) rfl (.inr ⟨[2, 3, 4, 5, 6, 7, 8], by decide, rfl⟩) (op_storeAgg 2 ty_92 rfl rfl rfl rfl rfl rfl (by first | rfl | (simp only [List.set_cons_succ, List.set_cons_zero]; exact rfl)) ?_) | refine ga_only 10 #[true, true, true, true, true, true, true, true, true, true, true] rfl rfl (by kernel_rfl) rfl (.inr ⟨[2, 3, 4, 5, 6, 7, 8], by decide, rfl⟩) (op_storeAgg 3 ty_92 rfl rfl rfl rfl rfl rfl (by first | rfl | (simp only [List.set_cons_succ, List.set_cons_zero]; exact rfl)) ?_) | refine ga_only 10 #[true, true, true, true, true, true, true, true, true, true, true] rfl rfl (by kernel_rfl) rfl (.inr ⟨[2, 3, 4, 5, 6, 7, 8], by decide, rfl⟩) (op_storeAgg 4 ty_92 rfl rfl rfl rfl rfl rfl (by first | rfl | (simp only [List.set_cons_succ, List.set_cons_zero]; exact rfl)) ?_) | refine ga_only 10 #[true, true, true, true, true, true, true, true, true, true, true] rfl rfl (by kernel_rfl) rfl (.inr ⟨[2, 3, 4, 5, 6, 7, 8], by decide, rfl⟩) (op_storeAgg 6 ty_92 rfl rfl rfl rfl rfl rfl (by first | rfl | (simp only [List.set_cons_succ, List.set_cons_zero]; exact rfl)) ?_) | refine ga_only 10 #[true, true, true, true, true, true, true, true, true, true, true] rfl rfl (by kernel_rfl) rfl (.inr ⟨[2, 3, 4, 5, 6, 7, 8], by decide, rfl⟩) (op_storeRowAgg 1 ty_92 rfl rfl rfl rfl rfl (by simp; omega) (by first | rfl | (simp only [List.set_cons_succ, List.set_cons_zero]; exact rfl)) ?_) | refine ga_only 10 #[true, true, true, true, true, true, true, true, true, true, true] rfl rfl (by kernel_rfl) rfl (.inr ⟨[2, 3, 4, 5, 6, 7, 8], by decide, rfl⟩) (op_storeRowAgg 7 ty_92 rfl rfl rfl rfl rfl (by simp; omega) (by first | rfl | (simp only [List.set_cons_succ, List.set_cons_zero]; exact rfl)) ?_) | refine ga_only 10 #[true, true, true, true, true, true, true, true, true, true, true] rfl rfl (by kernel_rfl) rfl (.inr ⟨[2, 3, 4, 5, 6, 7, 8], by decide, rfl⟩) (op_storeRowAgg 8 ty_92 rfl rfl rfl rfl rfl (by simp; omega) (by first | rfl | (simp only [List.set_cons_succ, List.set_cons_zero]; exact rfl)) ?_)
                refine ga_end (by kernel_rfl) (.inl (by kernel_rfl)) ?_
                refine gx_then ?_
                refine gc_seq ?_
                refine gc_seq ?_
                have hbkn := hroom.hbk
                have hslt := hroom.hsl
                have hplt := pack_lt (num := num + 1) (show key < 65536 by omega) hvs hv16
                have hp24 := pack_len (key := key) (num := num + 1) hv16
                obtain ⟨w1, w2, w3, w4, w5⟩ := wr_ok hf (o := bk * 256 + sl * 24) hplt (packP key (num + 1) vs).length (by omega)
                rw [show wrTo f (bk * 256 + sl * 24) (packP key (num + 1) vs) (packP key (num + 1) vs).length = writeP f (bk * 256 + sl * 24) (packP key (num + 1) vs) from rfl] at w1 w2 w3 w4 w5
                rw [hp24] at w2
                refine gc_drawP [0, 1, 2, 3, 5] true 5 rfl ?_
                refine ga_first 0 #[true, false, false, false, false, false] rfl rfl rfl rfl (by kernel_rfl) rfl ⟨[0, 1, 2, 3, 5], by decide, rfl⟩ (qt_rd (rd_move rfl)) ?_
                refine ga_first 1 #[true, true, false, false, false, false] rfl rfl rfl rfl (by kernel_rfl) rfl ⟨[0, 1, 2, 3, 5], by decide, rfl⟩ (qt_rd (rd_loadAgg Try.underlying94 rfl ty_94 rfl (by first | exact cs_blk 0 (off := 0) (k := 2) rfl rfl | exact cs_blk 2 (off := 0) (k := 2) rfl rfl | exact cs_blk 3 (off := 0) (k := 2) rfl rfl | exact cs_old (by assumption) (by simp)) rfl)) ?_
                refine ga_first 2 #[true, true, true, false, false, false] rfl rfl rfl rfl (by kernel_rfl) rfl ⟨[0, 1, 2, 3, 5], by decide, rfl⟩ (qt_rd (rd_loadAgg Try.underlying92 rfl ty_92 rfl (by first | exact cs_blk 0 (off := 0) (k := 3) rfl rfl | exact cs_blk 2 (off := 0) (k := 3) rfl rfl | exact cs_blk 3 (off := 0) (k := 3) rfl rfl | exact cs_old (by assumption) (by simp)) rfl)) ?_
                refine ga_only 3 #[true, true, true, true, false, false] rfl rfl (by kernel_rfl) rfl (.inr ⟨[0, 1, 2, 3, 5], by decide, rfl⟩) (op_call rfl (vf := []) (vc := []) rfl rfl Try.call52 (fun w2 ho => pack_all ⟨⟨key, num + 1, vs, bk, sl⟩, rv, cv⟩ ⟨hkey, hnum, hv16, hvs, (by simp only; omega), (by simp only; omega)⟩ (num + 1) hnum w2 (ho.rowSl 1 rfl) (row_nil (x := ⟨⟨key, num + 1, vs, bk, sl⟩, rv, cv⟩) ho (List.mem_of_getElem? (i := 1) rfl))) ?_)
                rintro _ _ ⟨rr, cr, rfl, rfl⟩
                refine ga_only 4 #[true, true, true, true, true, false] rfl rfl (by kernel_rfl) rfl (.inr ⟨[1, 2, 3, 4, 6], by decide, rfl⟩) (op_callMT [_, _, _, _, _, _, _, _, _, _] T [5, 7, 8, 9] [0, 1, 2, 3, 4, 6] 10 rfl rfl rfl (vf := []) (vc := []) rfl rfl Try.call51 (by decide) (by decide) rfl (fun w how hc => write_ok f hf bs bf (some gb) cb rp cp id bm num fb _ w hc (by omega) bk sl (by have := hroom.hbk; omega) hroom.hsl (packP key (num + 1) vs) hplt hp24 (some ⟨rr, 0, none⟩) 24 (rowOut how 0 [5, 7, 8, 9] rfl (by decide))) ?_)
                rintro _ _ ⟨rfl, rfl⟩
                refine ga_first 5 #[true, true, true, true, true, true] rfl rfl rfl rfl (by kernel_rfl) rfl ⟨[5, 6, 7, 8, 9], by decide, rfl⟩ (qt_rd (rd_assign rfl)) ?_
                refine ga_end (by kernel_rfl) (.inr ⟨[5, 6, 7, 8, 9], by decide, rfl⟩) ?_
                refine gx_then ?_
                refine gc_seq ?_
                refine gc_region ?_
                refine gl_op (op_rd rfl (rd_move rfl) ?_)
                refine gl_op (op_rd rfl (rd_neq rfl rfl) (gk_dec (fun h97 => ?_) (fun h97 => ?_)))
                · skip
                  refine gl_nil ?_
                  refine gx_then ?_
                  refine gc_cond_t rfl ?_
                  refine gc_seq ?_
                  refine gc_region ?_
                  refine gl_op (op_rd rfl (rd_move rfl) ?_)
                  refine gl_op (op_rd rfl (rd_move rfl) ?_)
                  refine gl_op (op_callMT [_, _, _, _, _, _, _, _, _, _] T [0] [1, 2, 3, 4, 5, 6, 7, 8, 9] 10 rfl rfl rfl (vf := []) (vc := []) rfl rfl Try.call50 (by decide) (by decide) rfl (fun w how hc => stopped_ok [] bs bf bm id num fb (writeP f (bk * 256 + sl * 24) (packP key (num + 1) vs)).2 _ w hc) ?_)
                  rintro _ _ ⟨rfl, rfl⟩
                  refine gl_op (op_rd rfl (rd_assign rfl) ?_)
                  refine gl_nil ?_
                  refine gx_then ?_
                  refine gc_ret ?_
                  refine gx_then_ret ?_
                  refine gx_ret1S (.inl rfl) Try.results17 rfl (sub_tail (A := [_, _, _, _, _]) (B := [_, _, _, _, _, _, _, _, _, _]) (T := T) [0, 9, 1, 2, 3] 10 (by decide) (by decide) rfl rfl) ?_
                  exact .inr (.inr ⟨by omega, hnf, (writeP f (bk * 256 + sl * 24) (packP key (num + 1) vs)).2, (writeP f (bk * 256 + sl * 24) (packP key (num + 1) vs)).1, m, nb, fb, num, stopId (writeP f (bk * 256 + sl * 24) (packP key (num + 1) vs)).2 id, T, rfl, .inl ⟨⟨bk, sl, hroom, rfl, rfl, .inl ⟨h97, rfl, rfl, rfl⟩⟩, rfl⟩, hms, (fun _ h => h), w1, by omega, by omega, rfl⟩)
                · skip
                  refine gl_nil ?_
                  refine gx_then ?_
                  refine gc_cond_f rfl ?_
                  refine gc_skip ?_
                  refine gx_then ?_
                  refine gc_seq ?_
                  refine gc_region ?_
                  refine gl_op (op_rd rfl (rd_move rfl) ?_)
                  refine gl_op (op_rd rfl (rd_nilCheck rfl) ?_)
                  refine gl_op (op_rd rfl (rd_fieldAddr rfl (fa_81_4 _)) ?_)
                  refine gl_op (op_rd rfl (rd_load Try.underlying79 rfl rfl (by first | exact ld_blk 0 rfl rfl | exact ld_blk 1 rfl rfl | exact ld_blk 5 rfl rfl | exact ld_blk 7 rfl rfl | exact ld_blk 8 rfl rfl | exact ld_old (by assumption) (by simp) | exact ld_cells (by assumption) (by simp) rfl)) ?_)
                  refine gl_op (op_rd rfl (rd_add32 (b := 1) rfl rfl (by omega)) ?_)
                  refine gl_op (op_rd rfl (rd_nilCheck rfl) ?_)
                  refine gl_op (op_rd rfl (rd_fieldAddr rfl (fa_81_4 _)) ?_)
                  first | refine gl_op (op_store 0 ty_79 rfl rfl rfl rfl rfl (by first | rfl | (simp only [List.set_cons_succ, List.set_cons_zero]; exact rfl)) (by first | rfl | (simp only [List.set_cons_succ, List.set_cons_zero]; exact rfl)) ?_) | refine gl_op (op_store 1 ty_79 rfl rfl rfl rfl rfl (by first | rfl | (simp only [List.set_cons_succ, List.set_cons_zero]; exact rfl)) (by first | rfl | (simp only [List.set_cons_succ, List.set_cons_zero]; exact rfl)) ?_) | refine gl_op (op_store 5 ty_79 rfl rfl rfl rfl rfl (by first | rfl | (simp only [List.set_cons_succ, List.set_cons_zero]; exact rfl)) (by first | rfl | (simp only [List.set_cons_succ, List.set_cons_zero]; exact rfl)) ?_) | refine gl_op (op_store 7 ty_79 rfl rfl rfl rfl rfl (by first | rfl | (simp only [List.set_cons_succ, List.set_cons_zero]; exact rfl)) (by first | rfl | (simp only [List.set_cons_succ, List.set_cons_zero]; exact rfl)) ?_) | refine gl_op (op_store 8 ty_79 rfl rfl rfl rfl rfl (by first | rfl | (simp only [List.set_cons_succ, List.set_cons_zero]; exact rfl)) (by first | rfl | (simp only [List.set_cons_succ, List.set_cons_zero]; exact rfl)) ?_) | refine gl_op (op_storeRow 2 ty_79 rfl rfl rfl rfl (by simp; omega) (by first | rfl | (simp only [List.set_cons_succ, List.set_cons_zero]; exact rfl)) ?_) | refine gl_op (op_storeRow 3 ty_79 rfl rfl rfl rfl (by simp; omega) (by first | rfl | (simp only [List.set_cons_succ, List.set_cons_zero]; exact rfl)) ?_) | refine gl_op (op_storeRow 4 ty_79 rfl rfl rfl rfl (by simp; omega) (by first | rfl | (simp only [List.set_cons_succ, List.set_cons_zero]; exact rfl)) ?_) | refine gl_op (op_storeRow 6 ty_79 rfl rfl rfl rfl (by simp; omega) (by first | rfl | (simp only [List.set_cons_succ, List.set_cons_zero]; exact rfl)) ?_)
                  refine gl_nil ?_
                  refine gx_then ?_
                  refine gc_seq ?_
                  refine gc_drawP [0, 1, 2, 3, 4, 5, 6, 7, 8] false 8 rfl ?_
                  refine ga_first 0 #[true, false, false, false, false, false, false, false, false] rfl rfl rfl rfl (by kernel_rfl) rfl ⟨[0, 1, 2, 3, 4, 5, 6, 7, 8], by decide, rfl⟩ (qt_rd (rd_move rfl)) ?_
                  refine ga_first 1 #[true, true, false, false, false, false, false, false, false] rfl rfl rfl rfl (by kernel_rfl) rfl ⟨[0, 1, 2, 3, 4, 5, 6, 7, 8], by decide, rfl⟩ (qt_rd (rd_nilCheck rfl)) ?_
                  refine ga_first 2 #[true, true, true, false, false, false, false, false, false] rfl rfl rfl rfl (by kernel_rfl) rfl ⟨[0, 1, 2, 3, 4, 5, 6, 7, 8], by decide, rfl⟩ (qt_rd (rd_fieldAddr rfl (fa_81_3 _))) ?_
                  refine ga_first 3 #[true, true, true, true, false, false, false, false, false] rfl rfl rfl rfl (by kernel_rfl) rfl ⟨[0, 1, 2, 3, 4, 5, 6, 7, 8], by decide, rfl⟩ (qt_rd (rd_load Try.underlying78 rfl rfl (by first | exact ld_blk 0 rfl rfl | exact ld_blk 1 rfl rfl | exact ld_blk 5 rfl rfl | exact ld_blk 7 rfl rfl | exact ld_blk 8 rfl rfl | exact ld_old (by assumption) (by simp) | exact ld_cells (by assumption) (by simp) rfl))) ?_
                  refine ga_first 4 #[true, true, true, true, true, false, false, false, false] rfl rfl rfl rfl (by kernel_rfl) rfl ⟨[0, 1, 2, 3, 4, 5, 6, 7, 8], by decide, rfl⟩ (qt_rd (rd_move rfl)) ?_
                  refine ga_first 5 #[true, true, true, true, true, true, false, false, false] rfl rfl rfl rfl (by kernel_rfl) rfl ⟨[0, 1, 2, 3, 4, 5, 6, 7, 8], by decide, rfl⟩ (qt_rd (rd_loadAgg Try.underlying92 rfl ty_92 rfl (by first | exact cs_blk 0 (off := 0) (k := 3) rfl rfl | exact cs_blk 1 (off := 0) (k := 3) rfl rfl | exact cs_blk 5 (off := 0) (k := 3) rfl rfl | exact cs_blk 7 (off := 0) (k := 3) rfl rfl | exact cs_blk 8 (off := 0) (k := 3) rfl rfl | exact cs_old (by assumption) (by simp)) rfl)) ?_
                  refine ga_first 6 #[true, true, true, true, true, true, true, false, false] rfl rfl rfl rfl (by kernel_rfl) rfl ⟨[0, 1, 2, 3, 4, 5, 6, 7, 8], by decide, rfl⟩ (qt_rd (rd_loadAgg Try.underlying94 rfl ty_94 rfl (by first | exact cs_blk 0 (off := 0) (k := 2) rfl rfl | exact cs_blk 1 (off := 0) (k := 2) rfl rfl | exact cs_blk 5 (off := 0) (k := 2) rfl rfl | exact cs_blk 7 (off := 0) (k := 2) rfl rfl | exact cs_blk 8 (off := 0) (k := 2) rfl rfl | exact cs_old (by assumption) (by simp)) rfl)) ?_
                  refine ga_first 7 #[true, true, true, true, true, true, true, true, false] rfl rfl rfl rfl (by kernel_rfl) rfl ⟨[0, 1, 2, 3, 4, 5, 6, 7, 8], by decide, rfl⟩ (qt_rd (rd_build rfl (fun _ => bd_96_0_1 _ _ _ _ _ _ _))) ?_
                  refine ga_only 8 #[true, true, true, true, true, true, true, true, true] rfl rfl (by kernel_rfl) rfl (.inr ⟨[0, 1, 2, 3, 4, 5, 6, 7, 8], by decide, rfl⟩) (op_mapPutM 9 HV (v := ⟨⟨key, num + 1, vs, bk, sl⟩, rv, cv⟩) Try.underlying78 Try.underlying3 rfl rfl rfl rfl rfl ?_)
                  refine ga_end (by kernel_rfl) (.inl (by kernel_rfl)) ?_
                  refine gx_then ?_
                  refine gc_seq ?_
                  refine gc_region ?_
                  refine gl_op (op_rd rfl (rd_assign rfl) ?_)
                  refine gl_nil ?_
                  refine gx_then ?_
                  refine gc_ret ?_
                  have hw0 : (writeP f (bk * 256 + sl * 24) (packP key (num + 1) vs)).2 = 0 := Decidable.byContradiction h97
                  have hen2 : EnOk ⟨key, num + 1, vs, bk, sl⟩ := ⟨hkey, hnum, hv16, hvs, (by have := hroom.hbk; simp only; omega), hroom.hsl⟩
                  refine gx_ret1S (.inl rfl) Try.results17 rfl (sub_tail (A := [_, _, _, _, _, _]) (B := [_, _, _, _, _, _, _, _, _, _]) (T := T) [0, 9, 1, 2, 3, 6] 10 (by decide) (by decide) rfl rfl) ?_
                  exact .inr (.inr ⟨by omega, hnf, 0, (writeP f (bk * 256 + sl * 24) (packP key (num + 1) vs)).1, mput ((key : Nat) : Int) ⟨⟨key, num + 1, vs, bk, sl⟩, rv, cv⟩ nb m, mnb ((key : Nat) : Int) m nb, fb, num + 1, id, He.row ⟨⟨key, num + 1, vs, bk, sl⟩, rv, cv⟩ :: T, rfl, .inl ⟨⟨bk, sl, hroom, rfl, hw0.symm, .inr ⟨rfl, pput_m ⟨⟨key, num + 1, vs, bk, sl⟩, rv, cv⟩ nb hms.key, rfl, rfl⟩⟩, rfl⟩, hms.put ⟨⟨key, num + 1, vs, bk, sl⟩, rv, cv⟩ hen2 (fun y hy => List.mem_cons_of_mem _ hy) List.mem_cons_self, (fun y hy => List.mem_cons_of_mem _ hy), w1, by omega, by omega, rfl⟩)
              · skip
                refine (op_alloc ty_92 rfl rfl (fun b13 => ?_))
                refine ga_only 7 #[true, true, true, true, true, true, true, true, false, true, false] rfl rfl (by kernel_rfl) rfl (.inr ⟨[1, 2, 3, 4, 5, 6, 7], by decide, rfl⟩) (op_call rfl (vf := []) (vc := []) rfl rfl Try.call42 (fun w2 ho => Clone_ok vs a ca w2 (hsl.at ho) (by omega)) ?_)
                rintro _ _ ⟨rv, cv, rfl, rfl⟩
                refine ga_first 8 #[true, true, true, true, true, true, true, true, true, true, false] rfl rfl rfl rfl (by kernel_rfl) rfl ⟨[2, 3, 4, 5, 6, 7, 8], by decide, rfl⟩ (qt_rd (rd_build rfl (fun _ => bd_92_0_1_2 _ _ _ _ _))) ?_
                first | refine ga_only 10 #[true, true, true, true, true, true, true, true, true, true, true] rfl rfl (by kernel_rfl) rfl (.inr ⟨[2, 3, 4, 5, 6, 7, 8], by decide, rfl⟩) (op_storeAgg 1 ty_92 rfl rfl rfl rfl rfl rfl (by first | rfl | (simp only [List.set_cons_succ, List.set_cons_zero]; exact rfl)) ?_) | refine ga_only 10 #[true, true, true, true, true, true, true, true, true, true, true] rfl rfl (by kernel_rfl) rfl (.inr ⟨[2, 3, 4, 5, 6, 7, 8], by decide, rfl⟩) (op_storeAgg 2 ty_92 rfl rfl rfl rfl rfl rfl (by first | rfl | (simp only [List.set_cons_succ, List.set_cons_zero]; exact rfl)) ?_) | refine ga_only 10 #[true, true, true, true, true, true, true, true, true, true, true] rfl rfl (by kernel_rfl) rfl (.inr ⟨[2, 3, 4, 5, 6, 7, 8], by decide, rfl⟩) (op_storeAgg 3 ty_92 rfl rfl rfl rfl rfl rfl (by first | rfl | (simp only [List.set_cons_succ, List.set_cons_zero]; exact rfl)) ?_) | refine ga_only 10 #[true, true, true, true, true, true, true, true, true, true, true] rfl rfl (by kernel_rfl) rfl (.inr ⟨[2, 3, 4, 5, 6, 7, 8], by decide, rfl⟩) (op_storeAgg 4 ty_92 rfl rfl rfl rfl rfl rfl (by first | rfl | (simp only [List.set_cons_succ, List.set_cons_zero]; exact rfl)) ?_) | refine ga_only 10 #[true, true, true, true, true, true, true, true, true, true, true] rfl rfl (by kernel_rfl) rfl (.inr ⟨[2, 3, 4, 5, 6, 7, 8], by decide, rfl⟩) (op_storeAgg 6 ty_92 rfl rfl rfl rfl rfl rfl (by first | rfl | (simp only [List.set_cons_succ, List.set_cons_zero]; exact rfl)) ?_) | refine ga_only 10 #[true, true, true, true, true, true, true, true, true, true, true] rfl rfl (by kernel_rfl) rfl (.inr ⟨[2, 3, 4, 5, 6, 7, 8], by decide, rfl⟩) (op_storeRowAgg 0 ty_92 rfl rfl rfl rfl rfl (by simp; omega) (by first | rfl | (simp only [List.set_cons_succ, List.set_cons_zero]; exact rfl)) ?_) | refine ga_only 10 #[true, true, true, true, true, true, true, true, true, true, true] rfl rfl (by kernel_rfl) rfl (.inr ⟨[2, 3, 4, 5, 6, 7, 8], by decide, rfl⟩) (op_storeRowAgg 7 ty_92 rfl rfl rfl rfl rfl (by simp; omega) (by first | rfl | (simp only [List.set_cons_succ, List.set_cons_zero]; exact rfl)) ?_) | refine ga_only 10 #[true, true, true, true, true, true, true, true, true, true, true] rfl rfl (by kernel_rfl) rfl (.inr ⟨[2, 3, 4, 5, 6, 7, 8], by decide, rfl⟩) (op_storeRowAgg 8 ty_92 rfl rfl rfl rfl rfl (by simp; omega) (by first | rfl | (simp only [List.set_cons_succ, List.set_cons_zero]; exact rfl)) ?_)
                refine ga_end (by kernel_rfl) (.inl (by kernel_rfl)) ?_
                refine gx_then ?_
                refine gc_seq ?_
                refine gc_seq ?_
                have hbkn := hroom.hbk
                have hslt := hroom.hsl
                have hplt := pack_lt (num := num + 1) (show key < 65536 by omega) hvs hv16
                have hp24 := pack_len (key := key) (num := num + 1) hv16
                obtain ⟨w1, w2, w3, w4, w5⟩ := wr_ok hf (o := bk * 256 + sl * 24) hplt (packP key (num + 1) vs).length (by omega)
                rw [show wrTo f (bk * 256 + sl * 24) (packP key (num + 1) vs) (packP key (num + 1) vs).length = writeP f (bk * 256 + sl * 24) (packP key (num + 1) vs) from rfl] at w1 w2 w3 w4 w5
                rw [hp24] at w2
                refine gc_drawP [0, 1, 2, 3, 5] true 5 rfl ?_
                refine ga_first 0 #[true, false, false, false, false, false] rfl rfl rfl rfl (by kernel_rfl) rfl ⟨[0, 1, 2, 3, 5], by decide, rfl⟩ (qt_rd (rd_move rfl)) ?_
                refine ga_first 1 #[true, true, false, false, false, false] rfl rfl rfl rfl (by kernel_rfl) rfl ⟨[0, 1, 2, 3, 5], by decide, rfl⟩ (qt_rd (rd_loadAgg Try.underlying94 rfl ty_94 rfl (by first | exact cs_blk 1 (off := 0) (k := 2) rfl rfl | exact cs_blk 2 (off := 0) (k := 2) rfl rfl | exact cs_blk 3 (off := 0) (k := 2) rfl rfl | exact cs_old (by assumption) (by simp)) rfl)) ?_
                refine ga_first 2 #[true, true, true, false, false, false] rfl rfl rfl rfl (by kernel_rfl) rfl ⟨[0, 1, 2, 3, 5], by decide, rfl⟩ (qt_rd (rd_loadAgg Try.underlying92 rfl ty_92 rfl (by first | exact cs_blk 1 (off := 0) (k := 3) rfl rfl | exact cs_blk 2 (off := 0) (k := 3) rfl rfl | exact cs_blk 3 (off := 0) (k := 3) rfl rfl | exact cs_old (by assumption) (by simp)) rfl)) ?_
                refine ga_only 3 #[true, true, true, true, false, false] rfl rfl (by kernel_rfl) rfl (.inr ⟨[0, 1, 2, 3, 5], by decide, rfl⟩) (op_call rfl (vf := []) (vc := []) rfl rfl Try.call52 (fun w2 ho => pack_all ⟨⟨key, num + 1, vs, bk, sl⟩, rv, cv⟩ ⟨hkey, hnum, hv16, hvs, (by simp only; omega), (by simp only; omega)⟩ (num + 1) hnum w2 (ho.rowSl 0 rfl) (row_nil (x := ⟨⟨key, num + 1, vs, bk, sl⟩, rv, cv⟩) ho (List.mem_of_getElem? (i := 0) rfl))) ?_)
                rintro _ _ ⟨rr, cr, rfl, rfl⟩
                refine ga_only 4 #[true, true, true, true, true, false] rfl rfl (by kernel_rfl) rfl (.inr ⟨[1, 2, 3, 4, 6], by decide, rfl⟩) (op_callMT [_, _, _, _, _, _, _, _, _, _] T [5, 7, 8, 9] [0, 1, 2, 3, 4, 6] 10 rfl rfl rfl (vf := []) (vc := []) rfl rfl Try.call51 (by decide) (by decide) rfl (fun w how hc => write_ok f hf bs bf (some gb) cb rp cp id bm num fb _ w hc (by omega) bk sl (by have := hroom.hbk; omega) hroom.hsl (packP key (num + 1) vs) hplt hp24 (some ⟨rr, 0, none⟩) 24 (rowOut how 0 [5, 7, 8, 9] rfl (by decide))) ?_)
                rintro _ _ ⟨rfl, rfl⟩
                refine ga_first 5 #[true, true, true, true, true, true] rfl rfl rfl rfl (by kernel_rfl) rfl ⟨[5, 6, 7, 8, 9], by decide, rfl⟩ (qt_rd (rd_assign rfl)) ?_
                refine ga_end (by kernel_rfl) (.inr ⟨[5, 6, 7, 8, 9], by decide, rfl⟩) ?_
                refine gx_then ?_
                refine gc_seq ?_
                refine gc_region ?_
                refine gl_op (op_rd rfl (rd_move rfl) ?_)
                refine gl_op (op_rd rfl (rd_neq rfl rfl) (gk_dec (fun h97 => ?_) (fun h97 => ?_)))
                · skip
                  refine gl_nil ?_
                  refine gx_then ?_
                  refine gc_cond_t rfl ?_
                  refine gc_seq ?_
                  refine gc_region ?_
                  refine gl_op (op_rd rfl (rd_move rfl) ?_)
                  refine gl_op (op_rd rfl (rd_move rfl) ?_)
                  refine gl_op (op_callMT [_, _, _, _, _, _, _, _, _, _] T [0] [1, 2, 3, 4, 5, 6, 7, 8, 9] 10 rfl rfl rfl (vf := []) (vc := []) rfl rfl Try.call50 (by decide) (by decide) rfl (fun w how hc => stopped_ok [] bs bf bm id num fb (writeP f (bk * 256 + sl * 24) (packP key (num + 1) vs)).2 _ w hc) ?_)
                  rintro _ _ ⟨rfl, rfl⟩
                  refine gl_op (op_rd rfl (rd_assign rfl) ?_)
                  refine gl_nil ?_
                  refine gx_then ?_
                  refine gc_ret ?_
                  refine gx_then_ret ?_
                  refine gx_ret1S (.inl rfl) Try.results17 rfl (sub_tail (A := [_, _, _, _, _]) (B := [_, _, _, _, _, _, _, _, _, _]) (T := T) [0, 9, 1, 2, 3] 10 (by decide) (by decide) rfl rfl) ?_
                  exact .inr (.inr ⟨by omega, hnf, (writeP f (bk * 256 + sl * 24) (packP key (num + 1) vs)).2, (writeP f (bk * 256 + sl * 24) (packP key (num + 1) vs)).1, m, nb, fb, num, stopId (writeP f (bk * 256 + sl * 24) (packP key (num + 1) vs)).2 id, T, rfl, .inl ⟨⟨bk, sl, hroom, rfl, rfl, .inl ⟨h97, rfl, rfl, rfl⟩⟩, rfl⟩, hms, (fun _ h => h), w1, by omega, by omega, rfl⟩)
                · skip
                  refine gl_nil ?_
                  refine gx_then ?_
                  refine gc_cond_f rfl ?_
                  refine gc_skip ?_
                  refine gx_then ?_
                  refine gc_seq ?_
                  refine gc_region ?_
                  refine gl_op (op_rd rfl (rd_move rfl) ?_)
                  refine gl_op (op_rd rfl (rd_nilCheck rfl) ?_)
                  refine gl_op (op_rd rfl (rd_fieldAddr rfl (fa_81_4 _)) ?_)
                  refine gl_op (op_rd rfl (rd_load Try.underlying79 rfl rfl (by first | exact ld_blk 0 rfl rfl | exact ld_blk 1 rfl rfl | exact ld_blk 6 rfl rfl | exact ld_blk 7 rfl rfl | exact ld_blk 8 rfl rfl | exact ld_old (by assumption) (by simp) | exact ld_cells (by assumption) (by simp) rfl)) ?_)
                  refine gl_op (op_rd rfl (rd_add32 (b := 1) rfl rfl (by omega)) ?_)
                  refine gl_op (op_rd rfl (rd_nilCheck rfl) ?_)
                  refine gl_op (op_rd rfl (rd_fieldAddr rfl (fa_81_4 _)) ?_)
                  first | refine gl_op (op_store 0 ty_79 rfl rfl rfl rfl rfl (by first | rfl | (simp only [List.set_cons_succ, List.set_cons_zero]; exact rfl)) (by first | rfl | (simp only [List.set_cons_succ, List.set_cons_zero]; exact rfl)) ?_) | refine gl_op (op_store 1 ty_79 rfl rfl rfl rfl rfl (by first | rfl | (simp only [List.set_cons_succ, List.set_cons_zero]; exact rfl)) (by first | rfl | (simp only [List.set_cons_succ, List.set_cons_zero]; exact rfl)) ?_) | refine gl_op (op_store 6 ty_79 rfl rfl rfl rfl rfl (by first | rfl | (simp only [List.set_cons_succ, List.set_cons_zero]; exact rfl)) (by first | rfl | (simp only [List.set_cons_succ, List.set_cons_zero]; exact rfl)) ?_) | refine gl_op (op_store 7 ty_79 rfl rfl rfl rfl rfl (by first | rfl | (simp only [List.set_cons_succ, List.set_cons_zero]; exact rfl)) (by first | rfl | (simp only [List.set_cons_succ, List.set_cons_zero]; exact rfl)) ?_) | refine gl_op (op_store 8 ty_79 rfl rfl rfl rfl rfl (by first | rfl | (simp only [List.set_cons_succ, List.set_cons_zero]; exact rfl)) (by first | rfl | (simp only [List.set_cons_succ, List.set_cons_zero]; exact rfl)) ?_) | refine gl_op (op_storeRow 2 ty_79 rfl rfl rfl rfl (by simp; omega) (by first | rfl | (simp only [List.set_cons_succ, List.set_cons_zero]; exact rfl)) ?_) | refine gl_op (op_storeRow 3 ty_79 rfl rfl rfl rfl (by simp; omega) (by first | rfl | (simp only [List.set_cons_succ, List.set_cons_zero]; exact rfl)) ?_) | refine gl_op (op_storeRow 4 ty_79 rfl rfl rfl rfl (by simp; omega) (by first | rfl | (simp only [List.set_cons_succ, List.set_cons_zero]; exact rfl)) ?_) | refine gl_op (op_storeRow 5 ty_79 rfl rfl rfl rfl (by simp; omega) (by first | rfl | (simp only [List.set_cons_succ, List.set_cons_zero]; exact rfl)) ?_)
                  refine gl_nil ?_
                  refine gx_then ?_
                  refine gc_seq ?_
                  refine gc_drawP [0, 1, 2, 3, 4, 5, 6, 7, 8] false 8 rfl ?_
                  refine ga_first 0 #[true, false, false, false, false, false, false, false, false] rfl rfl rfl rfl (by kernel_rfl) rfl ⟨[0, 1, 2, 3, 4, 5, 6, 7, 8], by decide, rfl⟩ (qt_rd (rd_move rfl)) ?_
                  refine ga_first 1 #[true, true, false, false, false, false, false, false, false] rfl rfl rfl rfl (by kernel_rfl) rfl ⟨[0, 1, 2, 3, 4, 5, 6, 7, 8], by decide, rfl⟩ (qt_rd (rd_nilCheck rfl)) ?_
                  refine ga_first 2 #[true, true, true, false, false, false, false, false, false] rfl rfl rfl rfl (by kernel_rfl) rfl ⟨[0, 1, 2, 3, 4, 5, 6, 7, 8], by decide, rfl⟩ (qt_rd (rd_fieldAddr rfl (fa_81_3 _))) ?_
                  refine ga_first 3 #[true, true, true, true, false, false, false, false, false] rfl rfl rfl rfl (by kernel_rfl) rfl ⟨[0, 1, 2, 3, 4, 5, 6, 7, 8], by decide, rfl⟩ (qt_rd (rd_load Try.underlying78 rfl rfl (by first | exact ld_blk 0 rfl rfl | exact ld_blk 1 rfl rfl | exact ld_blk 6 rfl rfl | exact ld_blk 7 rfl rfl | exact ld_blk 8 rfl rfl | exact ld_old (by assumption) (by simp) | exact ld_cells (by assumption) (by simp) rfl))) ?_
                  refine ga_first 4 #[true, true, true, true, true, false, false, false, false] rfl rfl rfl rfl (by kernel_rfl) rfl ⟨[0, 1, 2, 3, 4, 5, 6, 7, 8], by decide, rfl⟩ (qt_rd (rd_move rfl)) ?_
                  refine ga_first 5 #[true, true, true, true, true, true, false, false, false] rfl rfl rfl rfl (by kernel_rfl) rfl ⟨[0, 1, 2, 3, 4, 5, 6, 7, 8], by decide, rfl⟩ (qt_rd (rd_loadAgg Try.underlying92 rfl ty_92 rfl (by first | exact cs_blk 0 (off := 0) (k := 3) rfl rfl | exact cs_blk 1 (off := 0) (k := 3) rfl rfl | exact cs_blk 6 (off := 0) (k := 3) rfl rfl | exact cs_blk 7 (off := 0) (k := 3) rfl rfl | exact cs_blk 8 (off := 0) (k := 3) rfl rfl | exact cs_old (by assumption) (by simp)) rfl)) ?_
                  refine ga_first 6 #[true, true, true, true, true, true, true, false, false] rfl rfl rfl rfl (by kernel_rfl) rfl ⟨[0, 1, 2, 3, 4, 5, 6, 7, 8], by decide, rfl⟩ (qt_rd (rd_loadAgg Try.underlying94 rfl ty_94 rfl (by first | exact cs_blk 0 (off := 0) (k := 2) rfl rfl | exact cs_blk 1 (off := 0) (k := 2) rfl rfl | exact cs_blk 6 (off := 0) (k := 2) rfl rfl | exact cs_blk 7 (off := 0) (k := 2) rfl rfl | exact cs_blk 8 (off := 0) (k := 2) rfl rfl | exact cs_old (by assumption) (by simp)) rfl)) ?_
                  refine ga_first 7 #[true, true, true, true, true, true, true, true, false] rfl rfl rfl rfl (by kernel_rfl) rfl ⟨[0, 1, 2, 3, 4, 5, 6, 7, 8], by decide, rfl⟩ (qt_rd (rd_build rfl (fun _ => bd_96_0_1 _ _ _ _ _ _ _))) ?_
                  refine ga_only 8 #[true, true, true, true, true, true, true, true, true] rfl rfl (by kernel_rfl) rfl (.inr ⟨[0, 1, 2, 3, 4, 5, 6, 7, 8], by decide, rfl⟩) (op_mapPutM 9 HV (v := ⟨⟨key, num + 1, vs, bk, sl⟩, rv, cv⟩) Try.underlying78 Try.underlying3 rfl rfl rfl rfl rfl ?_)
                  refine ga_end (by kernel_rfl) (.inl (by kernel_rfl)) ?_
                  refine gx_then ?_
                  refine gc_seq ?_
                  refine gc_region ?_
                  refine gl_op (op_rd rfl (rd_assign rfl) ?_)
                  refine gl_nil ?_
                  refine gx_then ?_
                  refine gc_ret ?_
                  have hw0 : (writeP f (bk * 256 + sl * 24) (packP key (num + 1) vs)).2 = 0 := Decidable.byContradiction h97
                  have hen2 : EnOk ⟨key, num + 1, vs, bk, sl⟩ := ⟨hkey, hnum, hv16, hvs, (by have := hroom.hbk; simp only; omega), hroom.hsl⟩
                  refine gx_ret1S (.inl rfl) Try.results17 rfl (sub_tail (A := [_, _, _, _, _, _]) (B := [_, _, _, _, _, _, _, _, _, _]) (T := T) [0, 9, 1, 2, 3, 5] 10 (by decide) (by decide) rfl rfl) ?_
                  exact .inr (.inr ⟨by omega, hnf, 0, (writeP f (bk * 256 + sl * 24) (packP key (num + 1) vs)).1, mput ((key : Nat) : Int) ⟨⟨key, num + 1, vs, bk, sl⟩, rv, cv⟩ nb m, mnb ((key : Nat) : Int) m nb, fb, num + 1, id, He.row ⟨⟨key, num + 1, vs, bk, sl⟩, rv, cv⟩ :: T, rfl, .inl ⟨⟨bk, sl, hroom, rfl, hw0.symm, .inr ⟨rfl, pput_m ⟨⟨key, num + 1, vs, bk, sl⟩, rv, cv⟩ nb hms.key, rfl, rfl⟩⟩, rfl⟩, hms.put ⟨⟨key, num + 1, vs, bk, sl⟩, rv, cv⟩ hen2 (fun y hy => List.mem_cons_of_mem _ hy) List.mem_cons_self, (fun y hy => List.mem_cons_of_mem _ hy), w1, by omega, by omega, rfl⟩)
            · skip
              refine gl_op (op_rd rfl (rd_move rfl) ?_)
              refine gl_op (op_rd rfl (rd_extract rfl rfl) ?_)
              refine gl_op (op_rd rfl (rd_extract rfl rfl) ?_)
              refine gl_op (op_alloc ty_94 rfl rfl (fun b10 => ?_))
              first | refine gl_op (op_storeAgg 0 ty_94 rfl rfl rfl rfl rfl rfl (by first | rfl | (simp only [List.set_cons_succ, List.set_cons_zero]; exact rfl)) ?_) | refine gl_op (op_storeAgg 1 ty_94 rfl rfl rfl rfl rfl rfl (by first | rfl | (simp only [List.set_cons_succ, List.set_cons_zero]; exact rfl)) ?_) | refine gl_op (op_storeAgg 2 ty_94 rfl rfl rfl rfl rfl rfl (by first | rfl | (simp only [List.set_cons_succ, List.set_cons_zero]; exact rfl)) ?_) | refine gl_op (op_storeAgg 4 ty_94 rfl rfl rfl rfl rfl rfl (by first | rfl | (simp only [List.set_cons_succ, List.set_cons_zero]; exact rfl)) ?_) | refine gl_op (op_storeRowAgg 5 ty_94 rfl rfl rfl rfl rfl (by simp; omega) (by first | rfl | (simp only [List.set_cons_succ, List.set_cons_zero]; exact rfl)) ?_) | refine gl_op (op_storeRowAgg 6 ty_94 rfl rfl rfl rfl rfl (by simp; omega) (by first | rfl | (simp only [List.set_cons_succ, List.set_cons_zero]; exact rfl)) ?_)
              refine gl_op (op_rd rfl (rd_assign rfl) ?_)
              refine gl_nil ?_
              refine gx_then ?_
              refine gc_seq ?_
              refine gc_seq ?_
              refine gc_region ?_
              refine gl_op (op_rd rfl (rd_move rfl) ?_)
              refine gl_op (op_rd rfl (rd_not rfl) ?_)
              refine gl_nil ?_
              refine gx_then ?_
              refine gc_cond_t rfl ?_
              refine gc_seq ?_
              refine gc_seq ?_
              refine gc_region ?_
              refine gl_op (op_rd rfl (rd_move rfl) ?_)
              refine gl_op (op_callMW [_, _, _, _, _, _, _] T [2, 3, 4, 5, 6] [0, 1] 7 rfl rfl rfl (vf := []) (vc := []) rfl rfl Try.call49 (by decide) (by decide) rfl (fun w how hc => clean_ok f hf bs bf (some gb) cb rp cp id bm num fb m nb T hms _ w hc hml hfb hbn (by omega) (by omega)) ?_)
              rintro _ _ ⟨e1, f1, m1, nb1, fb1, rfl, hcl, hm1, hf1, hl1, hp1, rfl⟩
              refine gk_mid [_, _, _, _, _] T [_, _] ?_
              refine gl_op (op_rd rfl (rd_assign rfl) ?_)
              refine gl_nil ?_
              refine gx_then ?_
              refine gc_seq ?_
              refine gc_region ?_
              refine gl_op (op_rd rfl (rd_move rfl) ?_)
              refine gl_op (op_rd rfl (rd_neq rfl rfl) (gk_dec (fun h71 => ?_) (fun h71 => ?_)))
              · skip
                refine gl_nil ?_
                refine gx_then ?_
                refine gc_cond_t rfl ?_
                refine gc_seq ?_
                refine gc_region ?_
                refine gl_op (op_rd rfl (rd_move rfl) ?_)
                refine gl_op (op_rd rfl (rd_move rfl) ?_)
                refine gl_op (op_callMT [_, _, _, _, _, _, _] T [0] [1, 2, 3, 4, 5, 6] 7 rfl rfl rfl (vf := []) (vc := []) rfl rfl Try.call50 (by decide) (by decide) rfl (fun w how hc => stopped_ok [] bs bf bm id num fb1 e1 _ w hc) ?_)
                rintro _ _ ⟨rfl, rfl⟩
                refine gl_op (op_rd rfl (rd_assign rfl) ?_)
                refine gl_nil ?_
                refine gx_then ?_
                refine gc_ret ?_
                refine gx_then_ret ?_
                refine gx_then_ret ?_
                refine gx_ret1S (.inl rfl) Try.results17 rfl (sub_tail (A := [_, _, _, _, _]) (B := [_, _, _, _, _, _, _]) (T := T) [0, 1, 2, 3, 4] 7 (by decide) (by decide) rfl rfl) ?_
                exact .inr (.inr ⟨by omega, hnf, e1, f1, m1, nb1, fb1, num, stopId e1 id, T, rfl, .inr ⟨hno, e1, f1, plain m1, fb1, hcl, .inl ⟨h71, rfl, rfl, rfl, rfl, rfl, rfl⟩⟩, hm1, (fun _ h => h), hf1, hl1, by omega, rfl⟩)
              · skip
                refine gl_nil ?_
                refine gx_then ?_
                refine gc_cond_f rfl ?_
                refine gc_skip ?_
                refine gx_then ?_
                refine gc_seq ?_
                refine gc_region ?_
                refine gl_op (op_rd rfl (rd_move rfl) ?_)
                refine gl_op (op_call rfl (vf := []) (vc := []) rfl rfl Try.call48 (fun w1 ho => room_r (gb := gb) (room_q f1 hf1 bs bf gb cb rp cp id bm num fb1 w1 (ho.blkCells 0 rfl) (ho.blkCells 2 rfl) (ho.rowSl 3 rfl) (by omega))) ?_)
                rintro _ _ (⟨bk, sl, rfl, hroom, rfl⟩ | ⟨bk, sl, rfl, hno2, rfl⟩)
                · skip
                  refine gl_op (op_rd rfl (rd_move rfl) ?_)
                  refine gl_op (op_rd rfl (rd_extract rfl rfl) ?_)
                  refine gl_op (op_rd rfl (rd_extract rfl rfl) ?_)
                  first | refine gl_op (op_storeAgg 0 ty_94 rfl rfl rfl rfl rfl rfl (by first | rfl | (simp only [List.set_cons_succ, List.set_cons_zero]; exact rfl)) ?_) | refine gl_op (op_storeAgg 2 ty_94 rfl rfl rfl rfl rfl rfl (by first | rfl | (simp only [List.set_cons_succ, List.set_cons_zero]; exact rfl)) ?_) | refine gl_op (op_storeAgg 5 ty_94 rfl rfl rfl rfl rfl rfl (by first | rfl | (simp only [List.set_cons_succ, List.set_cons_zero]; exact rfl)) ?_) | refine gl_op (op_storeAgg 6 ty_94 rfl rfl rfl rfl rfl rfl (by first | rfl | (simp only [List.set_cons_succ, List.set_cons_zero]; exact rfl)) ?_) | refine gl_op (op_storeRowAgg 3 ty_94 rfl rfl rfl rfl rfl (by simp; omega) (by first | rfl | (simp only [List.set_cons_succ, List.set_cons_zero]; exact rfl)) ?_) | refine gl_op (op_storeRowAgg 4 ty_94 rfl rfl rfl rfl rfl (by simp; omega) (by first | rfl | (simp only [List.set_cons_succ, List.set_cons_zero]; exact rfl)) ?_)
                  refine gl_op (op_rd rfl (rd_assign rfl) ?_)
                  refine gl_nil ?_
                  refine gx_then ?_
                  refine gc_seq ?_
                  refine gc_region ?_
                  refine gl_op (op_rd rfl (rd_move rfl) ?_)
                  refine gl_op (op_rd rfl (rd_not rfl) ?_)
                  refine gl_nil ?_
                  refine gx_then ?_
                  refine gc_cond_f rfl ?_
                  refine gc_skip ?_
                  refine gx_then ?_
                  refine gc_seq ?_
                  refine gc_drawP [0, 1, 2, 3, 4, 5, 6] false 10 rfl ?_
                  refine ga_first 0 #[true, false, false, false, false, false, false, false, false, false, false] rfl rfl rfl rfl (by kernel_rfl) rfl ⟨[0, 1, 2, 3, 4, 5, 6], by decide, rfl⟩ (qt_rd (rd_move rfl)) ?_
                  refine ga_first 1 #[true, true, false, false, false, false, false, false, false, false, false] rfl rfl rfl rfl (by kernel_rfl) rfl ⟨[0, 1, 2, 3, 4, 5, 6], by decide, rfl⟩ (qt_rd (rd_move rfl)) ?_
                  refine ga_first 2 #[true, true, true, false, false, false, false, false, false, false, false] rfl rfl rfl rfl (by kernel_rfl) rfl ⟨[0, 1, 2, 3, 4, 5, 6], by decide, rfl⟩ (qt_rd (rd_nilCheck rfl)) ?_
                  refine ga_first 3 #[true, true, true, true, false, false, false, false, false, false, false] rfl rfl rfl rfl (by kernel_rfl) rfl ⟨[0, 1, 2, 3, 4, 5, 6], by decide, rfl⟩ (qt_rd (rd_fieldAddr rfl (fa_81_4 _))) ?_
                  refine ga_first 4 #[true, true, true, true, true, false, false, false, false, false, false] rfl rfl rfl rfl (by kernel_rfl) rfl ⟨[0, 1, 2, 3, 4, 5, 6], by decide, rfl⟩ (qt_rd (rd_load Try.underlying79 rfl rfl (by first | exact ld_blk 0 rfl rfl | exact ld_blk 2 rfl rfl | exact ld_blk 5 rfl rfl | exact ld_blk 6 rfl rfl | exact ld_old (by assumption) (by simp) | exact ld_cells (by assumption) (by simp) rfl))) ?_
                  refine ga_first 5 #[true, true, true, true, true, true, false, false, false, false, false] rfl rfl rfl rfl (by kernel_rfl) rfl ⟨[0, 1, 2, 3, 4, 5, 6], by decide, rfl⟩ (qt_rd (rd_add32 (b := 1) rfl rfl (by omega))) ?_
                  refine ga_first 6 #[true, true, true, true, true, true, true, false, false, false, false] rfl rfl rfl rfl (by kernel_rfl) rfl ⟨[0, 1, 2, 3, 4, 5, 6], by decide, rfl⟩ (qt_rd (rd_move rfl)) ?_
                  refine ga_two 7 9 #[true, true, true, true, true, true, true, true, false, false, false] #[true, true, true, true, true, true, true, false, false, true, false] rfl rfl rfl rfl (by kernel_rfl) rfl rfl (.inr ⟨[0, 1, 2, 3, 4, 5, 6], by decide, rfl⟩) ?_ ?_
                  · skip
                    refine (op_call rfl (vf := []) (vc := []) rfl rfl Try.call42 (fun w2 ho => Clone_ok vs a ca w2 (hsl.at ho) (by omega)) ?_)
                    rintro _ _ ⟨rv, cv, rfl, rfl⟩
                    refine ga_first 8 #[true, true, true, true, true, true, true, true, true, false, false] rfl rfl rfl rfl (by kernel_rfl) rfl ⟨[1, 2, 3, 4, 5, 6, 7], by decide, rfl⟩ (qt_rd (rd_build rfl (fun _ => bd_92_0_1_2 _ _ _ _ _))) ?_
                    refine ga_only 9 #[true, true, true, true, true, true, true, true, true, true, false] rfl rfl (by kernel_rfl) rfl (.inr ⟨[1, 2, 3, 4, 5, 6, 7], by decide, rfl⟩) (op_alloc ty_92 rfl rfl (fun b13 => ?_))
                    first | refine ga_only 10 #[true, true, true, true, true, true, true, true, true, true, true] rfl rfl (by kernel_rfl) rfl (.inr ⟨[2, 3, 4, 5, 6, 7, 8], by decide, rfl⟩) (op_storeAgg 0 ty_92 rfl rfl rfl rfl rfl rfl (by first | rfl | (simp only [List.set_cons_succ, List.set_cons_zero]; exact rfl)) ?_) | refine ga_only 10 #[true, true, true, true, true, true, true, true, true, true, true] rfl rfl (by kernel_rfl) rfl (.inr ⟨[2, 3, 4, 5, 6, 7, 8], by decide, rfl⟩) (op_storeAgg 2 ty_92 rfl rfl rfl rfl rfl rfl (by first | rfl | (simp only [List.set_cons_succ, List.set_cons_zero]; exact rfl)) ?_) | refine ga_only 10 #[true, true, true, true, true, true, true, true, true, true, true] rfl rfl (by kernel_rfl) rfl (.inr ⟨[2, 3, 4, 5, 6, 7, 8], by decide, rfl⟩) (op_storeAgg 4 ty_92 rfl rfl rfl rfl rfl rfl (by first | rfl | (simp only [List.set_cons_succ, List.set_cons_zero]; exact rfl)) ?_) | refine ga_only 10 #[true, true, true, true, true, true, true, true, true, true, true] rfl rfl (by kernel_rfl) rfl (.inr ⟨[2, 3, 4, 5, 6, 7, 8], by decide, rfl⟩) (op_storeAgg 7 ty_92 rfl rfl rfl rfl rfl rfl (by first | rfl | (simp only [List.set_cons_succ, List.set_cons_zero]; exact rfl)) ?_) | refine ga_only 10 #[true, true, true, true, true, true, true, true, true, true, true] rfl rfl (by kernel_rfl) rfl (.inr ⟨[2, 3, 4, 5, 6, 7, 8], by decide, rfl⟩) (op_storeAgg 8 ty_92 rfl rfl rfl rfl rfl rfl (by first | rfl | (simp only [List.set_cons_succ, List.set_cons_zero]; exact rfl)) ?_) | refine ga_only 10 #[true, true, true, true, true, true, true, true, true, true, true] rfl rfl (by kernel_rfl) rfl (.inr ⟨[2, 3, 4, 5, 6, 7, 8], by decide, rfl⟩) (op_storeRowAgg 1 ty_92 rfl rfl rfl rfl rfl (by simp; omega) (by first | rfl | (simp only [List.set_cons_succ, List.set_cons_zero]; exact rfl)) ?_) | refine ga_only 10 #[true, true, true, true, true, true, true, true, true, true, true] rfl rfl (by kernel_rfl) rfl (.inr ⟨[2, 3, 4, 5, 6, 7, 8], by decide, rfl⟩) (op_storeRowAgg 5 ty_92 rfl rfl rfl rfl rfl (by simp; omega) (by first | rfl | (simp only [List.set_cons_succ, List.set_cons_zero]; exact rfl)) ?_) | refine ga_only 10 #[true, true, true, true, true, true, true, true, true, true, true] rfl rfl (by kernel_rfl) rfl (.inr ⟨[2, 3, 4, 5, 6, 7, 8], by decide, rfl⟩) (op_storeRowAgg 6 ty_92 rfl rfl rfl rfl rfl (by simp; omega) (by first | rfl | (simp only [List.set_cons_succ, List.set_cons_zero]; exact rfl)) ?_)
                    refine ga_end (by kernel_rfl) (.inl (by kernel_rfl)) ?_
                    refine gx_then ?_
                    refine gc_seq ?_
                    refine gc_seq ?_
                    have hbkn := hroom.hbk
                    have hslt := hroom.hsl
                    have hplt := pack_lt (num := num + 1) (show key < 65536 by omega) hvs hv16
                    have hp24 := pack_len (key := key) (num := num + 1) hv16
                    obtain ⟨w1, w2, w3, w4, w5⟩ := wr_ok hf1 (o := bk * 256 + sl * 24) hplt (packP key (num + 1) vs).length (by omega)
                    rw [show wrTo f1 (bk * 256 + sl * 24) (packP key (num + 1) vs) (packP key (num + 1) vs).length = writeP f1 (bk * 256 + sl * 24) (packP key (num + 1) vs) from rfl] at w1 w2 w3 w4 w5
                    rw [hp24] at w2
                    refine gc_drawP [0, 1, 3, 7, 8] true 5 rfl ?_
                    refine ga_first 0 #[true, false, false, false, false, false] rfl rfl rfl rfl (by kernel_rfl) rfl ⟨[0, 1, 3, 7, 8], by decide, rfl⟩ (qt_rd (rd_move rfl)) ?_
                    refine ga_first 1 #[true, true, false, false, false, false] rfl rfl rfl rfl (by kernel_rfl) rfl ⟨[0, 1, 3, 7, 8], by decide, rfl⟩ (qt_rd (rd_loadAgg Try.underlying94 rfl ty_94 rfl (by first | exact cs_blk 0 (off := 0) (k := 2) rfl rfl | exact cs_blk 3 (off := 0) (k := 2) rfl rfl | exact cs_blk 4 (off := 0) (k := 2) rfl rfl | exact cs_old (by assumption) (by simp)) rfl)) ?_
                    refine ga_first 2 #[true, true, true, false, false, false] rfl rfl rfl rfl (by kernel_rfl) rfl ⟨[0, 1, 3, 7, 8], by decide, rfl⟩ (qt_rd (rd_loadAgg Try.underlying92 rfl ty_92 rfl (by first | exact cs_blk 0 (off := 0) (k := 3) rfl rfl | exact cs_blk 3 (off := 0) (k := 3) rfl rfl | exact cs_blk 4 (off := 0) (k := 3) rfl rfl | exact cs_old (by assumption) (by simp)) rfl)) ?_
                    refine ga_only 3 #[true, true, true, true, false, false] rfl rfl (by kernel_rfl) rfl (.inr ⟨[0, 1, 3, 7, 8], by decide, rfl⟩) (op_call rfl (vf := []) (vc := []) rfl rfl Try.call52 (fun w2 ho => pack_all ⟨⟨key, num + 1, vs, bk, sl⟩, rv, cv⟩ ⟨hkey, hnum, hv16, hvs, (by simp only; omega), (by simp only; omega)⟩ (num + 1) hnum w2 (ho.rowSl 1 rfl) (row_nil (x := ⟨⟨key, num + 1, vs, bk, sl⟩, rv, cv⟩) ho (List.mem_of_getElem? (i := 1) rfl))) ?_)
                    rintro _ _ ⟨rr, cr, rfl, rfl⟩
                    refine ga_only 4 #[true, true, true, true, true, false] rfl rfl (by kernel_rfl) rfl (.inr ⟨[1, 2, 4, 8, 9], by decide, rfl⟩) (op_callMT [_, _, _, _, _, _, _, _, _, _] T [3, 5, 6, 7] [0, 1, 2, 4, 8, 9] 10 rfl rfl rfl (vf := []) (vc := []) rfl rfl Try.call51 (by decide) (by decide) rfl (fun w how hc => write_ok f1 hf1 bs bf (some gb) cb rp cp id bm num fb1 _ w hc (by omega) bk sl (by have := hroom.hbk; omega) hroom.hsl (packP key (num + 1) vs) hplt hp24 (some ⟨rr, 0, none⟩) 24 (rowOut how 0 [3, 5, 6, 7] rfl (by decide))) ?_)
                    rintro _ _ ⟨rfl, rfl⟩
                    refine ga_first 5 #[true, true, true, true, true, true] rfl rfl rfl rfl (by kernel_rfl) rfl ⟨[5, 6, 7, 8, 9], by decide, rfl⟩ (qt_rd (rd_assign rfl)) ?_
                    refine ga_end (by kernel_rfl) (.inr ⟨[5, 6, 7, 8, 9], by decide, rfl⟩) ?_
                    refine gx_then ?_
                    refine gc_seq ?_
                    refine gc_region ?_
                    refine gl_op (op_rd rfl (rd_move rfl) ?_)
                    refine gl_op (op_rd rfl (rd_neq rfl rfl) (gk_dec (fun h97 => ?_) (fun h97 => ?_)))
                    · skip
                      refine gl_nil ?_
                      refine gx_then ?_
                      refine gc_cond_t rfl ?_
                      refine gc_seq ?_
                      refine gc_region ?_
                      refine gl_op (op_rd rfl (rd_move rfl) ?_)
                      refine gl_op (op_rd rfl (rd_move rfl) ?_)
                      refine gl_op (op_callMT [_, _, _, _, _, _, _, _, _, _] T [0] [1, 2, 3, 4, 5, 6, 7, 8, 9] 10 rfl rfl rfl (vf := []) (vc := []) rfl rfl Try.call50 (by decide) (by decide) rfl (fun w how hc => stopped_ok [] bs bf bm id num fb1 (writeP f1 (bk * 256 + sl * 24) (packP key (num + 1) vs)).2 _ w hc) ?_)
                      rintro _ _ ⟨rfl, rfl⟩
                      refine gl_op (op_rd rfl (rd_assign rfl) ?_)
                      refine gl_nil ?_
                      refine gx_then ?_
                      refine gc_ret ?_
                      refine gx_then_ret ?_
                      refine gx_ret1S (.inl rfl) Try.results17 rfl (sub_tail (A := [_, _, _, _, _]) (B := [_, _, _, _, _, _, _, _, _, _]) (T := T) [0, 7, 1, 2, 3] 10 (by decide) (by decide) rfl rfl) ?_
                      exact .inr (.inr ⟨by omega, hnf, (writeP f1 (bk * 256 + sl * 24) (packP key (num + 1) vs)).2, (writeP f1 (bk * 256 + sl * 24) (packP key (num + 1) vs)).1, m1, nb1, fb1, num, stopId (writeP f1 (bk * 256 + sl * 24) (packP key (num + 1) vs)).2 id, T, rfl, .inr ⟨hno, e1, f1, plain m1, fb1, hcl, .inr (.inr ⟨by omega, ⟨bk, sl, hroom, rfl, rfl, .inl ⟨h97, rfl, rfl, rfl⟩⟩, rfl⟩)⟩, hm1, (fun _ h => h), w1, by omega, by omega, rfl⟩)
                    · skip
                      refine gl_nil ?_
                      refine gx_then ?_
                      refine gc_cond_f rfl ?_
                      refine gc_skip ?_
                      refine gx_then ?_
                      refine gc_seq ?_
                      refine gc_region ?_
                      refine gl_op (op_rd rfl (rd_move rfl) ?_)
                      refine gl_op (op_rd rfl (rd_nilCheck rfl) ?_)
                      refine gl_op (op_rd rfl (rd_fieldAddr rfl (fa_81_4 _)) ?_)
                      refine gl_op (op_rd rfl (rd_load Try.underlying79 rfl rfl (by first | exact ld_blk 0 rfl rfl | exact ld_blk 1 rfl rfl | exact ld_blk 5 rfl rfl | exact ld_blk 8 rfl rfl | exact ld_blk 9 rfl rfl | exact ld_old (by assumption) (by simp) | exact ld_cells (by assumption) (by simp) rfl)) ?_)
                      refine gl_op (op_rd rfl (rd_add32 (b := 1) rfl rfl (by omega)) ?_)
                      refine gl_op (op_rd rfl (rd_nilCheck rfl) ?_)
                      refine gl_op (op_rd rfl (rd_fieldAddr rfl (fa_81_4 _)) ?_)
                      first | refine gl_op (op_store 0 ty_79 rfl rfl rfl rfl rfl (by first | rfl | (simp only [List.set_cons_succ, List.set_cons_zero]; exact rfl)) (by first | rfl | (simp only [List.set_cons_succ, List.set_cons_zero]; exact rfl)) ?_) | refine gl_op (op_store 1 ty_79 rfl rfl rfl rfl rfl (by first | rfl | (simp only [List.set_cons_succ, List.set_cons_zero]; exact rfl)) (by first | rfl | (simp only [List.set_cons_succ, List.set_cons_zero]; exact rfl)) ?_) | refine gl_op (op_store 5 ty_79 rfl rfl rfl rfl rfl (by first | rfl | (simp only [List.set_cons_succ, List.set_cons_zero]; exact rfl)) (by first | rfl | (simp only [List.set_cons_succ, List.set_cons_zero]; exact rfl)) ?_) | refine gl_op (op_store 8 ty_79 rfl rfl rfl rfl rfl (by first | rfl | (simp only [List.set_cons_succ, List.set_cons_zero]; exact rfl)) (by first | rfl | (simp only [List.set_cons_succ, List.set_cons_zero]; exact rfl)) ?_) | refine gl_op (op_store 9 ty_79 rfl rfl rfl rfl rfl (by first | rfl | (simp only [List.set_cons_succ, List.set_cons_zero]; exact rfl)) (by first | rfl | (simp only [List.set_cons_succ, List.set_cons_zero]; exact rfl)) ?_) | refine gl_op (op_storeRow 2 ty_79 rfl rfl rfl rfl (by simp; omega) (by first | rfl | (simp only [List.set_cons_succ, List.set_cons_zero]; exact rfl)) ?_) | refine gl_op (op_storeRow 3 ty_79 rfl rfl rfl rfl (by simp; omega) (by first | rfl | (simp only [List.set_cons_succ, List.set_cons_zero]; exact rfl)) ?_) | refine gl_op (op_storeRow 4 ty_79 rfl rfl rfl rfl (by simp; omega) (by first | rfl | (simp only [List.set_cons_succ, List.set_cons_zero]; exact rfl)) ?_) | refine gl_op (op_storeRow 6 ty_79 rfl rfl rfl rfl (by simp; omega) (by first | rfl | (simp only [List.set_cons_succ, List.set_cons_zero]; exact rfl)) ?_)
                      refine gl_nil ?_
                      refine gx_then ?_
                      refine gc_seq ?_
                      refine gc_drawP [0, 1, 2, 3, 4, 5, 6, 8, 9] false 8 rfl ?_
                      refine ga_first 0 #[true, false, false, false, false, false, false, false, false] rfl rfl rfl rfl (by kernel_rfl) rfl ⟨[0, 1, 2, 3, 4, 5, 6, 8, 9], by decide, rfl⟩ (qt_rd (rd_move rfl)) ?_
                      refine ga_first 1 #[true, true, false, false, false, false, false, false, false] rfl rfl rfl rfl (by kernel_rfl) rfl ⟨[0, 1, 2, 3, 4, 5, 6, 8, 9], by decide, rfl⟩ (qt_rd (rd_nilCheck rfl)) ?_
                      refine ga_first 2 #[true, true, true, false, false, false, false, false, false] rfl rfl rfl rfl (by kernel_rfl) rfl ⟨[0, 1, 2, 3, 4, 5, 6, 8, 9], by decide, rfl⟩ (qt_rd (rd_fieldAddr rfl (fa_81_3 _))) ?_
                      refine ga_first 3 #[true, true, true, true, false, false, false, false, false] rfl rfl rfl rfl (by kernel_rfl) rfl ⟨[0, 1, 2, 3, 4, 5, 6, 8, 9], by decide, rfl⟩ (qt_rd (rd_load Try.underlying78 rfl rfl (by first | exact ld_blk 0 rfl rfl | exact ld_blk 1 rfl rfl | exact ld_blk 5 rfl rfl | exact ld_blk 7 rfl rfl | exact ld_blk 8 rfl rfl | exact ld_old (by assumption) (by simp) | exact ld_cells (by assumption) (by simp) rfl))) ?_
                      refine ga_first 4 #[true, true, true, true, true, false, false, false, false] rfl rfl rfl rfl (by kernel_rfl) rfl ⟨[0, 1, 2, 3, 4, 5, 6, 8, 9], by decide, rfl⟩ (qt_rd (rd_move rfl)) ?_
                      refine ga_first 5 #[true, true, true, true, true, true, false, false, false] rfl rfl rfl rfl (by kernel_rfl) rfl ⟨[0, 1, 2, 3, 4, 5, 6, 8, 9], by decide, rfl⟩ (qt_rd (rd_loadAgg Try.underlying92 rfl ty_92 rfl (by first | exact cs_blk 0 (off := 0) (k := 3) rfl rfl | exact cs_blk 1 (off := 0) (k := 3) rfl rfl | exact cs_blk 5 (off := 0) (k := 3) rfl rfl | exact cs_blk 7 (off := 0) (k := 3) rfl rfl | exact cs_blk 8 (off := 0) (k := 3) rfl rfl | exact cs_old (by assumption) (by simp)) rfl)) ?_
                      refine ga_first 6 #[true, true, true, true, true, true, true, false, false] rfl rfl rfl rfl (by kernel_rfl) rfl ⟨[0, 1, 2, 3, 4, 5, 6, 8, 9], by decide, rfl⟩ (qt_rd (rd_loadAgg Try.underlying94 rfl ty_94 rfl (by first | exact cs_blk 0 (off := 0) (k := 2) rfl rfl | exact cs_blk 1 (off := 0) (k := 2) rfl rfl | exact cs_blk 5 (off := 0) (k := 2) rfl rfl | exact cs_blk 7 (off := 0) (k := 2) rfl rfl | exact cs_blk 8 (off := 0) (k := 2) rfl rfl | exact cs_old (by assumption) (by simp)) rfl)) ?_
                      refine ga_first 7 #[true, true, true, true, true, true, true, true, false] rfl rfl rfl rfl (by kernel_rfl) rfl ⟨[0, 1, 2, 3, 4, 5, 6, 8, 9], by decide, rfl⟩ (qt_rd (rd_build rfl (fun _ => bd_96_0_1 _ _ _ _ _ _ _))) ?_
                      refine ga_only 8 #[true, true, true, true, true, true, true, true, true] rfl rfl (by kernel_rfl) rfl (.inr ⟨[0, 1, 2, 3, 4, 5, 6, 8, 9], by decide, rfl⟩) (op_mapPutM 7 HV (v := ⟨⟨key, num + 1, vs, bk, sl⟩, rv, cv⟩) Try.underlying78 Try.underlying3 rfl rfl rfl rfl rfl ?_)
                      refine ga_end (by kernel_rfl) (.inl (by kernel_rfl)) ?_
                      refine gx_then ?_
                      refine gc_seq ?_
                      refine gc_region ?_
                      refine gl_op (op_rd rfl (rd_assign rfl) ?_)
                      refine gl_nil ?_
                      refine gx_then ?_
                      refine gc_ret ?_
                      have hw0 : (writeP f1 (bk * 256 + sl * 24) (packP key (num + 1) vs)).2 = 0 := Decidable.byContradiction h97
                      have hen2 : EnOk ⟨key, num + 1, vs, bk, sl⟩ := ⟨hkey, hnum, hv16, hvs, (by have := hroom.hbk; simp only; omega), hroom.hsl⟩
                      refine gx_ret1S (.inl rfl) Try.results17 rfl (sub_tail (A := [_, _, _, _, _, _]) (B := [_, _, _, _, _, _, _, _, _, _]) (T := T) [0, 7, 1, 2, 3, 6] 10 (by decide) (by decide) rfl rfl) ?_
                      exact .inr (.inr ⟨by omega, hnf, 0, (writeP f1 (bk * 256 + sl * 24) (packP key (num + 1) vs)).1, mput ((key : Nat) : Int) ⟨⟨key, num + 1, vs, bk, sl⟩, rv, cv⟩ nb1 m1, mnb ((key : Nat) : Int) m1 nb1, fb1, num + 1, id, He.row ⟨⟨key, num + 1, vs, bk, sl⟩, rv, cv⟩ :: T, rfl, .inr ⟨hno, e1, f1, plain m1, fb1, hcl, .inr (.inr ⟨by omega, ⟨bk, sl, hroom, rfl, hw0.symm, .inr ⟨rfl, pput_m ⟨⟨key, num + 1, vs, bk, sl⟩, rv, cv⟩ nb1 hm1.key, rfl, rfl⟩⟩, rfl⟩)⟩, hm1.put ⟨⟨key, num + 1, vs, bk, sl⟩, rv, cv⟩ hen2 (fun y hy => List.mem_cons_of_mem _ hy) List.mem_cons_self, (fun y hy => List.mem_cons_of_mem _ hy), w1, by omega, by omega, rfl⟩)
                  · skip
                    refine (op_alloc ty_92 rfl rfl (fun b13 => ?_))
                    refine ga_only 7 #[true, true, true, true, true, true, true, true, false, true, false] rfl rfl (by kernel_rfl) rfl (.inr ⟨[1, 2, 3, 4, 5, 6, 7], by decide, rfl⟩) (op_call rfl (vf := []) (vc := []) rfl rfl Try.call42 (fun w2 ho => Clone_ok vs a ca w2 (hsl.at ho) (by omega)) ?_)
                    rintro _ _ ⟨rv, cv, rfl, rfl⟩
                    refine ga_first 8 #[true, true, true, true, true, true, true, true, true, true, false] rfl rfl rfl rfl (by kernel_rfl) rfl ⟨[2, 3, 4, 5, 6, 7, 8], by decide, rfl⟩ (qt_rd (rd_build rfl (fun _ => bd_92_0_1_2 _ _ _ _ _))) ?_
                    first | refine ga_only 10 #[true, true, true, true, true, true, true, true, true, true, true] rfl rfl (by kernel_rfl) rfl (.inr ⟨[2, 3, 4, 5, 6, 7, 8], by decide, rfl⟩) (op_storeAgg 1 ty_92 rfl rfl rfl rfl rfl rfl (by first | rfl | (simp only [List.set_cons_succ, List.set_cons_zero]; exact rfl)) ?_) | refine ga_only 10 #[true, true, true, true, true, true, true, true, true, true, true] rfl rfl (by kernel_rfl) rfl (.inr ⟨[2, 3, 4, 5, 6, 7, 8], by decide, rfl⟩) (op_storeAgg 2 ty_92 rfl rfl rfl rfl rfl rfl (by first | rfl | (simp only [List.set_cons_succ, List.set_cons_zero]; exact rfl)) ?_) | refine ga_only 10 #[true, true, true, true, true, true, true, true, true, true, true] rfl rfl (by kernel_rfl) rfl (.inr ⟨[2, 3, 4, 5, 6, 7, 8], by decide, rfl⟩) (op_storeAgg 4 ty_92 rfl rfl rfl rfl rfl rfl (by first | rfl | (simp only [List.set_cons_succ, List.set_cons_zero]; exact rfl)) ?_) | refine ga_only 10 #[true, true, true, true, true, true, true, true, true, true, true] rfl rfl (by kernel_rfl) rfl (.inr ⟨[2, 3, 4, 5, 6, 7, 8], by decide, rfl⟩) (op_storeAgg 7 ty_92 rfl rfl rfl rfl rfl rfl (by first | rfl | (simp only [List.set_cons_succ, List.set_cons_zero]; exact rfl)) ?_) | refine ga_only 10 #[true, true, true, true, true, true, true, true, true, true, true] rfl rfl (by kernel_rfl) rfl (.inr ⟨[2, 3, 4, 5, 6, 7, 8], by decide, rfl⟩) (op_storeAgg 8 ty_92 rfl rfl rfl rfl rfl rfl (by first | rfl | (simp only [List.set_cons_succ, List.set_cons_zero]; exact rfl)) ?_) | refine ga_only 10 #[true, true, true, true, true, true, true, true, true, true, true] rfl rfl (by kernel_rfl) rfl (.inr ⟨[2, 3, 4, 5, 6, 7, 8], by decide, rfl⟩) (op_storeRowAgg 0 ty_92 rfl rfl rfl rfl rfl (by simp; omega) (by first | rfl | (simp only [List.set_cons_succ, List.set_cons_zero]; exact rfl)) ?_) | refine ga_only 10 #[true, true, true, true, true, true, true, true, true, true, true] rfl rfl (by kernel_rfl) rfl (.inr ⟨[2, 3, 4, 5, 6, 7, 8], by decide, rfl⟩) (op_storeRowAgg 5 ty_92 rfl rfl rfl rfl rfl (by simp; omega) (by first | rfl | (simp only [List.set_cons_succ, List.set_cons_zero]; exact rfl)) ?_) | refine ga_only 10 #[true, true, true, true, true, true, true, true, true, true, true] rfl rfl (by kernel_rfl) rfl (.inr ⟨[2, 3, 4, 5, 6, 7, 8], by decide, rfl⟩) (op_storeRowAgg 6 ty_92 rfl rfl rfl rfl rfl (by simp; omega) (by first | rfl | (simp only [List.set_cons_succ, List.set_cons_zero]; exact rfl)) ?_)
                    refine ga_end (by kernel_rfl) (.inl (by kernel_rfl)) ?_
                    refine gx_then ?_
                    refine gc_seq ?_
                    refine gc_seq ?_
                    have hbkn := hroom.hbk
                    have hslt := hroom.hsl
                    have hplt := pack_lt (num := num + 1) (show key < 65536 by omega) hvs hv16
                    have hp24 := pack_len (key := key) (num := num + 1) hv16
                    obtain ⟨w1, w2, w3, w4, w5⟩ := wr_ok hf1 (o := bk * 256 + sl * 24) hplt (packP key (num + 1) vs).length (by omega)
                    rw [show wrTo f1 (bk * 256 + sl * 24) (packP key (num + 1) vs) (packP key (num + 1) vs).length = writeP f1 (bk * 256 + sl * 24) (packP key (num + 1) vs) from rfl] at w1 w2 w3 w4 w5
                    rw [hp24] at w2
                    refine gc_drawP [0, 1, 3, 7, 8] true 5 rfl ?_
                    refine ga_first 0 #[true, false, false, false, false, false] rfl rfl rfl rfl (by kernel_rfl) rfl ⟨[0, 1, 3, 7, 8], by decide, rfl⟩ (qt_rd (rd_move rfl)) ?_
                    refine ga_first 1 #[true, true, false, false, false, false] rfl rfl rfl rfl (by kernel_rfl) rfl ⟨[0, 1, 3, 7, 8], by decide, rfl⟩ (qt_rd (rd_loadAgg Try.underlying94 rfl ty_94 rfl (by first | exact cs_blk 1 (off := 0) (k := 2) rfl rfl | exact cs_blk 3 (off := 0) (k := 2) rfl rfl | exact cs_blk 4 (off := 0) (k := 2) rfl rfl | exact cs_old (by assumption) (by simp)) rfl)) ?_
                    refine ga_first 2 #[true, true, true, false, false, false] rfl rfl rfl rfl (by kernel_rfl) rfl ⟨[0, 1, 3, 7, 8], by decide, rfl⟩ (qt_rd (rd_loadAgg Try.underlying92 rfl ty_92 rfl (by first | exact cs_blk 1 (off := 0) (k := 3) rfl rfl | exact cs_blk 3 (off := 0) (k := 3) rfl rfl | exact cs_blk 4 (off := 0) (k := 3) rfl rfl | exact cs_old (by assumption) (by simp)) rfl)) ?_
                    refine ga_only 3 #[true, true, true, true, false, false] rfl rfl (by kernel_rfl) rfl (.inr ⟨[0, 1, 3, 7, 8], by decide, rfl⟩) (op_call rfl (vf := []) (vc := []) rfl rfl Try.call52 (fun w2 ho => pack_all ⟨⟨key, num + 1, vs, bk, sl⟩, rv, cv⟩ ⟨hkey, hnum, hv16, hvs, (by simp only; omega), (by simp only; omega)⟩ (num + 1) hnum w2 (ho.rowSl 0 rfl) (row_nil (x := ⟨⟨key, num + 1, vs, bk, sl⟩, rv, cv⟩) ho (List.mem_of_getElem? (i := 0) rfl))) ?_)
                    rintro _ _ ⟨rr, cr, rfl, rfl⟩
                    refine ga_only 4 #[true, true, true, true, true, false] rfl rfl (by kernel_rfl) rfl (.inr ⟨[1, 2, 4, 8, 9], by decide, rfl⟩) (op_callMT [_, _, _, _, _, _, _, _, _, _] T [3, 5, 6, 7] [0, 1, 2, 4, 8, 9] 10 rfl rfl rfl (vf := []) (vc := []) rfl rfl Try.call51 (by decide) (by decide) rfl (fun w how hc => write_ok f1 hf1 bs bf (some gb) cb rp cp id bm num fb1 _ w hc (by omega) bk sl (by have := hroom.hbk; omega) hroom.hsl (packP key (num + 1) vs) hplt hp24 (some ⟨rr, 0, none⟩) 24 (rowOut how 0 [3, 5, 6, 7] rfl (by decide))) ?_)
                    rintro _ _ ⟨rfl, rfl⟩
                    refine ga_first 5 #[true, true, true, true, true, true] rfl rfl rfl rfl (by kernel_rfl) rfl ⟨[5, 6, 7, 8, 9], by decide, rfl⟩ (qt_rd (rd_assign rfl)) ?_
                    refine ga_end (by kernel_rfl) (.inr ⟨[5, 6, 7, 8, 9], by decide, rfl⟩) ?_
                    refine gx_then ?_
                    refine gc_seq ?_
                    refine gc_region ?_
                    refine gl_op (op_rd rfl (rd_move rfl) ?_)
                    refine gl_op (op_rd rfl (rd_neq rfl rfl) (gk_dec (fun h97 => ?_) (fun h97 => ?_)))
                    · skip
                      refine gl_nil ?_
                      refine gx_then ?_
                      refine gc_cond_t rfl ?_
                      refine gc_seq ?_
                      refine gc_region ?_
                      refine gl_op (op_rd rfl (rd_move rfl) ?_)
                      refine gl_op (op_rd rfl (rd_move rfl) ?_)
                      refine gl_op (op_callMT [_, _, _, _, _, _, _, _, _, _] T [0] [1, 2, 3, 4, 5, 6, 7, 8, 9] 10 rfl rfl rfl (vf := []) (vc := []) rfl rfl Try.call50 (by decide) (by decide) rfl (fun w how hc => stopped_ok [] bs bf bm id num fb1 (writeP f1 (bk * 256 + sl * 24) (packP key (num + 1) vs)).2 _ w hc) ?_)
                      rintro _ _ ⟨rfl, rfl⟩
                      refine gl_op (op_rd rfl (rd_assign rfl) ?_)
                      refine gl_nil ?_
                      refine gx_then ?_
                      refine gc_ret ?_
                      refine gx_then_ret ?_
                      refine gx_ret1S (.inl rfl) Try.results17 rfl (sub_tail (A := [_, _, _, _, _]) (B := [_, _, _, _, _, _, _, _, _, _]) (T := T) [0, 7, 1, 2, 3] 10 (by decide) (by decide) rfl rfl) ?_
                      exact .inr (.inr ⟨by omega, hnf, (writeP f1 (bk * 256 + sl * 24) (packP key (num + 1) vs)).2, (writeP f1 (bk * 256 + sl * 24) (packP key (num + 1) vs)).1, m1, nb1, fb1, num, stopId (writeP f1 (bk * 256 + sl * 24) (packP key (num + 1) vs)).2 id, T, rfl, .inr ⟨hno, e1, f1, plain m1, fb1, hcl, .inr (.inr ⟨by omega, ⟨bk, sl, hroom, rfl, rfl, .inl ⟨h97, rfl, rfl, rfl⟩⟩, rfl⟩)⟩, hm1, (fun _ h => h), w1, by omega, by omega, rfl⟩)
                    · skip
                      refine gl_nil ?_
                      refine gx_then ?_
                      refine gc_cond_f rfl ?_
                      refine gc_skip ?_
                      refine gx_then ?_
                      refine gc_seq ?_
                      refine gc_region ?_
                      refine gl_op (op_rd rfl (rd_move rfl) ?_)
                      refine gl_op (op_rd rfl (rd_nilCheck rfl) ?_)
                      refine gl_op (op_rd rfl (rd_fieldAddr rfl (fa_81_4 _)) ?_)
                      refine gl_op (op_rd rfl (rd_load Try.underlying79 rfl rfl (by first | exact ld_blk 0 rfl rfl | exact ld_blk 1 rfl rfl | exact ld_blk 6 rfl rfl | exact ld_blk 8 rfl rfl | exact ld_blk 9 rfl rfl | exact ld_old (by assumption) (by simp) | exact ld_cells (by assumption) (by simp) rfl)) ?_)
                      refine gl_op (op_rd rfl (rd_add32 (b := 1) rfl rfl (by omega)) ?_)
                      refine gl_op (op_rd rfl (rd_nilCheck rfl) ?_)
                      refine gl_op (op_rd rfl (rd_fieldAddr rfl (fa_81_4 _)) ?_)
                      first | refine gl_op (op_store 0 ty_79 rfl rfl rfl rfl rfl (by first | rfl | (simp only [List.set_cons_succ, List.set_cons_zero]; exact rfl)) (by first | rfl | (simp only [List.set_cons_succ, List.set_cons_zero]; exact rfl)) ?_) | refine gl_op (op_store 1 ty_79 rfl rfl rfl rfl rfl (by first | rfl | (simp only [List.set_cons_succ, List.set_cons_zero]; exact rfl)) (by first | rfl | (simp only [List.set_cons_succ, List.set_cons_zero]; exact rfl)) ?_) | refine gl_op (op_store 6 ty_79 rfl rfl rfl rfl rfl (by first | rfl | (simp only [List.set_cons_succ, List.set_cons_zero]; exact rfl)) (by first | rfl | (simp only [List.set_cons_succ, List.set_cons_zero]; exact rfl)) ?_) | refine gl_op (op_store 8 ty_79 rfl rfl rfl rfl rfl (by first | rfl | (simp only [List.set_cons_succ, List.set_cons_zero]; exact rfl)) (by first | rfl | (simp only [List.set_cons_succ, List.set_cons_zero]; exact rfl)) ?_) | refine gl_op (op_store 9 ty_79 rfl rfl rfl rfl rfl (by first | rfl | (simp only [List.set_cons_succ, List.set_cons_zero]; exact rfl)) (by first | rfl | (simp only [List.set_cons_succ, List.set_cons_zero]; exact rfl)) ?_) | refine gl_op (op_storeRow 2 ty_79 rfl rfl rfl rfl (by simp; omega) (by first | rfl | (simp only [List.set_cons_succ, List.set_cons_zero]; exact rfl)) ?_) | refine gl_op (op_storeRow 3 ty_79 rfl rfl rfl rfl (by simp; omega) (by first | rfl | (simp only [List.set_cons_succ, List.set_cons_zero]; exact rfl)) ?_) | refine gl_op (op_storeRow 4 ty_79 rfl rfl rfl rfl (by simp; omega) (by first | rfl | (simp only [List.set_cons_succ, List.set_cons_zero]; exact rfl)) ?_) | refine gl_op (op_storeRow 5 ty_79 rfl rfl rfl rfl (by simp; omega) (by first | rfl | (simp only [List.set_cons_succ, List.set_cons_zero]; exact rfl)) ?_)
                      refine gl_nil ?_
                      refine gx_then ?_
                      refine gc_seq ?_
                      refine gc_drawP [0, 1, 2, 3, 4, 5, 6, 8, 9] false 8 rfl ?_
                      refine ga_first 0 #[true, false, false, false, false, false, false, false, false] rfl rfl rfl rfl (by kernel_rfl) rfl ⟨[0, 1, 2, 3, 4, 5, 6, 8, 9], by decide, rfl⟩ (qt_rd (rd_move rfl)) ?_
                      refine ga_first 1 #[true, true, false, false, false, false, false, false, false] rfl rfl rfl rfl (by kernel_rfl) rfl ⟨[0, 1, 2, 3, 4, 5, 6, 8, 9], by decide, rfl⟩ (qt_rd (rd_nilCheck rfl)) ?_
                      refine ga_first 2 #[true, true, true, false, false, false, false, false, false] rfl rfl rfl rfl (by kernel_rfl) rfl ⟨[0, 1, 2, 3, 4, 5, 6, 8, 9], by decide, rfl⟩ (qt_rd (rd_fieldAddr rfl (fa_81_3 _))) ?_
                      refine ga_first 3 #[true, true, true, true, false, false, false, false, false] rfl rfl rfl rfl (by kernel_rfl) rfl ⟨[0, 1, 2, 3, 4, 5, 6, 8, 9], by decide, rfl⟩ (qt_rd (rd_load Try.underlying78 rfl rfl (by first | exact ld_blk 0 rfl rfl | exact ld_blk 1 rfl rfl | exact ld_blk 6 rfl rfl | exact ld_blk 7 rfl rfl | exact ld_blk 8 rfl rfl | exact ld_old (by assumption) (by simp) | exact ld_cells (by assumption) (by simp) rfl))) ?_
                      refine ga_first 4 #[true, true, true, true, true, false, false, false, false] rfl rfl rfl rfl (by kernel_rfl) rfl ⟨[0, 1, 2, 3, 4, 5, 6, 8, 9], by decide, rfl⟩ (qt_rd (rd_move rfl)) ?_
                      refine ga_first 5 #[true, true, true, true, true, true, false, false, false] rfl rfl rfl rfl (by kernel_rfl) rfl ⟨[0, 1, 2, 3, 4, 5, 6, 8, 9], by decide, rfl⟩ (qt_rd (rd_loadAgg Try.underlying92 rfl ty_92 rfl (by first | exact cs_blk 0 (off := 0) (k := 3) rfl rfl | exact cs_blk 1 (off := 0) (k := 3) rfl rfl | exact cs_blk 6 (off := 0) (k := 3) rfl rfl | exact cs_blk 7 (off := 0) (k := 3) rfl rfl | exact cs_blk 8 (off := 0) (k := 3) rfl rfl | exact cs_old (by assumption) (by simp)) rfl)) ?_
                      refine ga_first 6 #[true, true, true, true, true, true, true, false, false] rfl rfl rfl rfl (by kernel_rfl) rfl ⟨[0, 1, 2, 3, 4, 5, 6, 8, 9], by decide, rfl⟩ (qt_rd (rd_loadAgg Try.underlying94 rfl ty_94 rfl (by first | exact cs_blk 0 (off := 0) (k := 2) rfl rfl | exact cs_blk 1 (off := 0) (k := 2) rfl rfl | exact cs_blk 6 (off := 0) (k := 2) rfl rfl | exact cs_blk 7 (off := 0) (k := 2) rfl rfl | exact cs_blk 8 (off := 0) (k := 2) rfl rfl | exact cs_old (by assumption) (by simp)) rfl)) ?_
                      refine ga_first 7 #[true, true, true, true, true, true, true, true, false] rfl rfl rfl rfl (by kernel_rfl) rfl ⟨[0, 1, 2, 3, 4, 5, 6, 8, 9], by decide, rfl⟩ (qt_rd (rd_build rfl (fun _ => bd_96_0_1 _ _ _ _ _ _ _))) ?_
                      refine ga_only 8 #[true, true, true, true, true, true, true, true, true] rfl rfl (by kernel_rfl) rfl (.inr ⟨[0, 1, 2, 3, 4, 5, 6, 8, 9], by decide, rfl⟩) (op_mapPutM 7 HV (v := ⟨⟨key, num + 1, vs, bk, sl⟩, rv, cv⟩) Try.underlying78 Try.underlying3 rfl rfl rfl rfl rfl ?_)
                      refine ga_end (by kernel_rfl) (.inl (by kernel_rfl)) ?_
                      refine gx_then ?_
                      refine gc_seq ?_
                      refine gc_region ?_
                      refine gl_op (op_rd rfl (rd_assign rfl) ?_)
                      refine gl_nil ?_
                      refine gx_then ?_
                      refine gc_ret ?_
                      have hw0 : (writeP f1 (bk * 256 + sl * 24) (packP key (num + 1) vs)).2 = 0 := Decidable.byContradiction h97
                      have hen2 : EnOk ⟨key, num + 1, vs, bk, sl⟩ := ⟨hkey, hnum, hv16, hvs, (by have := hroom.hbk; simp only; omega), hroom.hsl⟩
                      refine gx_ret1S (.inl rfl) Try.results17 rfl (sub_tail (A := [_, _, _, _, _, _]) (B := [_, _, _, _, _, _, _, _, _, _]) (T := T) [0, 7, 1, 2, 3, 5] 10 (by decide) (by decide) rfl rfl) ?_
                      exact .inr (.inr ⟨by omega, hnf, 0, (writeP f1 (bk * 256 + sl * 24) (packP key (num + 1) vs)).1, mput ((key : Nat) : Int) ⟨⟨key, num + 1, vs, bk, sl⟩, rv, cv⟩ nb1 m1, mnb ((key : Nat) : Int) m1 nb1, fb1, num + 1, id, He.row ⟨⟨key, num + 1, vs, bk, sl⟩, rv, cv⟩ :: T, rfl, .inr ⟨hno, e1, f1, plain m1, fb1, hcl, .inr (.inr ⟨by omega, ⟨bk, sl, hroom, rfl, hw0.symm, .inr ⟨rfl, pput_m ⟨⟨key, num + 1, vs, bk, sl⟩, rv, cv⟩ nb1 hm1.key, rfl, rfl⟩⟩, rfl⟩)⟩, hm1.put ⟨⟨key, num + 1, vs, bk, sl⟩, rv, cv⟩ hen2 (fun y hy => List.mem_cons_of_mem _ hy) List.mem_cons_self, (fun y hy => List.mem_cons_of_mem _ hy), w1, by omega, by omega, rfl⟩)
                · skip
                  refine gl_op (op_rd rfl (rd_move rfl) ?_)
                  refine gl_op (op_rd rfl (rd_extract rfl rfl) ?_)
                  refine gl_op (op_rd rfl (rd_extract rfl rfl) ?_)
                  first | refine gl_op (op_storeAgg 0 ty_94 rfl rfl rfl rfl rfl rfl (by first | rfl | (simp only [List.set_cons_succ, List.set_cons_zero]; exact rfl)) ?_) | refine gl_op (op_storeAgg 2 ty_94 rfl rfl rfl rfl rfl rfl (by first | rfl | (simp only [List.set_cons_succ, List.set_cons_zero]; exact rfl)) ?_) | refine gl_op (op_storeAgg 5 ty_94 rfl rfl rfl rfl rfl rfl (by first | rfl | (simp only [List.set_cons_succ, List.set_cons_zero]; exact rfl)) ?_) | refine gl_op (op_storeAgg 6 ty_94 rfl rfl rfl rfl rfl rfl (by first | rfl | (simp only [List.set_cons_succ, List.set_cons_zero]; exact rfl)) ?_) | refine gl_op (op_storeRowAgg 3 ty_94 rfl rfl rfl rfl rfl (by simp; omega) (by first | rfl | (simp only [List.set_cons_succ, List.set_cons_zero]; exact rfl)) ?_) | refine gl_op (op_storeRowAgg 4 ty_94 rfl rfl rfl rfl rfl (by simp; omega) (by first | rfl | (simp only [List.set_cons_succ, List.set_cons_zero]; exact rfl)) ?_)
                  refine gl_op (op_rd rfl (rd_assign rfl) ?_)
                  refine gl_nil ?_
                  refine gx_then ?_
                  refine gc_seq ?_
                  refine gc_region ?_
                  refine gl_op (op_rd rfl (rd_move rfl) ?_)
                  refine gl_op (op_rd rfl (rd_not rfl) ?_)
                  refine gl_nil ?_
                  refine gx_then ?_
                  refine gc_cond_t rfl ?_
                  refine gc_seq ?_
                  refine gc_region ?_
                  refine gl_op (op_rd rfl (rd_assign rfl) ?_)
                  refine gl_nil ?_
                  refine gx_then ?_
                  refine gc_ret ?_
                  refine gx_then_ret ?_
                  refine gx_ret1S (.inl rfl) Try.results17 rfl (sub_tail (A := [_, _, _, _, _]) (B := [_, _, _, _, _, _, _]) (T := T) [0, 1, 2, 3, 4] 7 (by decide) (by decide) rfl rfl) ?_
                  exact .inr (.inr ⟨by omega, hnf, 6, f1, m1, nb1, fb1, num, id, T, rfl, .inr ⟨hno, e1, f1, plain m1, fb1, hcl, .inr (.inl ⟨by omega, hno2, rfl, rfl, rfl, rfl, rfl, rfl⟩)⟩, hm1, (fun _ h => h), hf1, hl1, by omega, rfl⟩)

end Go.Proofs.Ythcbcdjkfefnlaa
