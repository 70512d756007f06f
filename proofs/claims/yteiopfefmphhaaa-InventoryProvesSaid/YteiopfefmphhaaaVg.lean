import Derived.Test.YteiopfefmphhaaaVc
import Derived.Test.YteiopfefmphhaaaGw
import Derived.Test.YteiopfefmphhaaaVe
import Derived.Test.YteiopfefmphhaaaVf
/- The reference search: its walk, and that it answers as Best. -/
set_option linter.unusedSimpArgs false
set_option linter.unusedVariables false
set_option linter.unnecessarySimpa false
set_option autoImplicit false
set_option linter.unusedVariables false
namespace Go.Proofs.Yteiopfefmphhaaa
open Go.Gv
open Go.RowKit
namespace Iv
/-! the reference's search in plain Lean -/
abbrev Wth := Int × Int
abbrev wv (x : Wth) : Value := .agg #[.int .i64 x.1, .int .i64 x.2]
def btr (a b : Wth) : Bool := decide (b.1 < a.1) || (decide (a.1 = b.1) && decide (a.2 < b.2))
def bitN (m k : Nat) : Bool := decide (m >>> k &&& 1 = 1)
def offW (p : Pipe) (x : Wish) (m k : Nat) : Bool := !fits p x || bitN m k
def tryW (p : Pipe) (x : Wish) (y : Wth) : Wth := (y.1 + 1, y.2 + cost p x)
def stepW (l : List Pipe) (x : Wish) (g : Nat → Wth) (m : Nat) (b : Wth) (k : Nat) : Wth :=
  if offW (l.getD k default) x m k then b else if btr (tryW (l.getD k default) x (g (m ||| 1 <<< k))) b then tryW (l.getD k default) x (g (m ||| 1 <<< k)) else b
def foldW (l : List Pipe) (x : Wish) (g : Nat → Wth) (m : Nat) (n : Nat) : Wth := (List.range n).foldl (stepW l x g m) (g m)
def srcW (l : List Pipe) (w : List Wish) : Nat → Nat → Nat → Wth
  | 0, _, _ => (0, 0)
  | f + 1, i, m => foldW l (w.getD i default) (srcW l w f (i + 1)) m l.length
theorem foldW_succ (l : List Pipe) (x : Wish) (g : Nat → Wth) (m n : Nat) : foldW l x g m (n + 1) = stepW l x g m (foldW l x g m n) n := by
  unfold foldW; rw [List.range_succ, List.foldl_append]; rfl
structure WOk (f : Nat) (x : Wth) : Prop where
  a0 : 0 ≤ x.1
  a1 : x.1 ≤ f
  b0 : 0 ≤ x.2
  b1 : x.2 ≤ f * 12200000
theorem WOk.up {f : Nat} {x : Wth} (h : WOk f x) : WOk (f + 1) x := ⟨h.a0, by have := h.a1; omega, h.b0, by have := h.b1; omega⟩
theorem WOk.one {f : Nat} {y : Wth} (h : WOk f y) {p : Pipe} {x : Wish} (hp : p.Ok) (hx : x.Ok) (hf : fits p x = true) : WOk (f + 1) (tryW p x y) := by
  have h1 := cost_nn p x
  have h2 := cost_le hp hx hf
  have := h.a0; have := h.a1; have := h.b0; have := h.b1
  exact ⟨by simp only [tryW]; omega, by simp only [tryW]; omega, by simp only [tryW]; omega, by simp only [tryW]; omega⟩
theorem fold_wok {l : List Pipe} {x : Wish} {g : Nat → Wth} {f : Nat} (hl : ∀ p ∈ l, p.Ok) (hx : x.Ok) (hg : ∀ m, WOk f (g m)) (m : Nat) : ∀ n, n ≤ l.length → WOk (f + 1) (foldW l x g m n)
  | 0, _ => (hg m).up
  | n + 1, hn => by
    have ih := fold_wok hl hx hg m n (by omega)
    rw [foldW_succ]
    unfold stepW
    split
    · exact ih
    · rename_i h1
      split
      · refine (hg _).one (hl _ (mem_getD (by omega))) hx ?_
        unfold offW at h1
        cases hf : fits (l.getD n default) x with
        | true => rfl
        | false => rw [hf] at h1; exact absurd rfl h1
      · exact ih
theorem src_wok {l : List Pipe} {w : List Wish} (hd : Dat l w) : ∀ (f i m : Nat), i + f = w.length → WOk f (srcW l w f i m)
  | 0, i, m, _ => ⟨Int.le_refl _, Int.le_refl _, Int.le_refl _, by simp [srcW]⟩
  | f + 1, i, m, h => fold_wok hd.p (hd.w _ (mem_getD (by omega))) (fun m => src_wok hd f (i + 1) m (by omega)) m _ (Nat.le_refl _)
/-- a cache -/
structure Ca where
  b : Nat
  es : List MapEntry
  nb : Nat
  m : List (Nat × Wth)
def Ca.hl (c : Ca) : HL := .obj c.b (.map c.es.toArray c.nb)
def kvW (m : List (Nat × Wth)) : List (Int × Value) := m.map fun p => ((p.1 : Int), wv p.2)
def lookW (k : Nat) : List (Nat × Wth) → Option Wth
  | [] => none
  | p :: m => if k = p.1 then some p.2 else lookW k m
theorem lkv_look (k : Nat) : ∀ m, lkv (k : Int) (kvW m) = (lookW k m).map wv
  | [] => rfl
  | p :: m => by
    show (if (k : Int) = (p.1 : Int) then some (wv p.2) else lkv (k : Int) (kvW m)) = _
    rw [lookW, lkv_look k m]
    by_cases h : k = p.1
    · rw [if_pos (by omega), if_pos h]; rfl
    · rw [if_neg (by omega), if_neg h]
theorem look_mem {k : Nat} {v : Wth} : ∀ {m : List (Nat × Wth)}, lookW k m = some v → (k, v) ∈ m
  | [], h => by cases h
  | p :: m, h => by
    rw [lookW] at h
    split at h
    · rename_i h1; cases h; subst h1; exact List.mem_cons_self
    · exact List.mem_cons_of_mem _ (look_mem h)
structure Ca.Ok (l : List Pipe) (w : List Wish) (i : Nat) (c : Ca) : Prop where
  kv : KV c.es (kvW c.m)
  v : ∀ p ∈ c.m, p.2 = srcW l w (w.length - i) i p.1
def CasOk (l : List Pipe) (w : List Wish) : Nat → List Ca → Prop
  | i, [] => i = w.length
  | i, c :: T => i < w.length ∧ c.Ok l w i ∧ CasOk l w (i + 1) T
theorem cas_len {l : List Pipe} {w : List Wish} : ∀ {i : Nat} {T : List Ca}, CasOk l w i T → i + T.length = w.length
  | i, [], h => h
  | i, c :: T, h => by have := cas_len h.2.2; simp only [List.length_cons]; omega
theorem blk_cas (T : List Ca) : (T.map Ca.hl).filterMap HL.block = T.map Ca.b := by
  induction T with
  | nil => rfl
  | cons c T ih => rw [List.map_cons, List.filterMap_cons, ih]; rfl
theorem kvW_snoc {es : List MapEntry} {m : List (Nat × Wth)} (h : KV es (kvW m)) (k : Nat) (x : Wth) (nb : Nat) : KV (es ++ [⟨.int .i64 (k : Int), wv x, nb⟩]) (kvW (m ++ [(k, x)])) := by
  have := h.snoc (k : Int) (wv x) nb
  unfold kvW at this ⊢
  rw [List.map_append]
  exact this
section
variable {P : Program} {n : Nat} {e : Env} {w0 : World} {S : List Nat} {l : List HL} {dst : Option Tmp} {ty : TypeId} {pos : String} {aft : Array Edge} {gd : Option (Nat × Bool)}
theorem rd_look (j : Nat) {q : IntKind} {t kt et : TypeId} {x y : Operand} {b : Nat} {es : List MapEntry} {nb : Nat} {m : List (Nat × Wth)} {k : Nat} {size bytes : Nat} (hm : KV es (kvW m)) (hj : l[j]? = some (.obj b (.map es.toArray nb))) (hu : P.underlying t = some (.map kt et)) (hk : P.underlying kt = some (.int q)) (ht : TyF P et (wv (0, 0)) size bytes) (hx : e.ev x = some (.map (some b))) (hy : e.ev y = some (natV k)) :
    Rd P n e w0 S l ⟨dst, .lookup t x y true, ty, pos, aft, gd⟩ (.tuple #[wv ((lookW k m).getD (0, 0)), .bool (lookW k m).isSome]) := by
  have := rd_lookupVOk (dst := dst) (ty := ty) (pos := pos) (aft := aft) (gd := gd) (n := n) (w0 := w0) (S := S) j hm hj hu hk ht hx hy
  rw [lkv_look] at this
  cases h : lookW k m with
  | none => rw [h] at this; exact this
  | some v => rw [h] at this; exact this
end
end Iv
end Go.Proofs.Yteiopfefmphhaaa

set_option autoImplicit false
set_option linter.unusedVariables false
namespace Go.Proofs.Yteiopfefmphhaaa
open Go.Gv
open Go.RowKit
namespace Iv
theorem sp_frame {P : Program} {f : FuncId} {args : List Value} {w0 : World} {S Sc : List Nat} {A B : List HL} {R : Value → List HL → Prop} (ho : Own w0 S w0 (A ++ B)) (hSc : Sc = B.filterMap HL.block) (h : Own w0 Sc w0 B → Sp P f args w0 Sc R) : Sp P f args w0 S (fun v L => ∃ B', R v B' ∧ L = A ++ B') := by
  have hB : Own w0 S w0 B := by
    have := ho.pick ((List.range B.length).map (· + A.length)) (List.Pairwise.map _ (fun a b hab => by omega) List.nodup_range)
    rwa [pick_tail] at this
  have hA : Own w0 S w0 A := by
    have := ho.pick (List.range A.length) List.nodup_range
    rwa [pick_head] at this
  have hown : Own w0 Sc w0 B := ⟨rfl, rfl, rfl, Nat.le_refl _, fun _ _ _ => rfl, hB.holds, fun x hx b hb => .inl (by rw [hSc]; exact List.mem_filterMap.2 ⟨x, hx, hb⟩), hB.nodup⟩
  refine Calls.mono (h hown) fun en w1 ⟨v, l1, he, hR, h1⟩ => ⟨v, A ++ l1, he, ⟨l1, hR, rfl⟩, ?_⟩
  have h2 := ho.called h1 hA (fun b hb => by
    rw [hSc] at hb
    obtain ⟨y, hy, hyb⟩ := List.mem_filterMap.1 hb
    exact hB.place y hy b hyb) (fun x hx b hxb hb => by
    rw [hSc] at hb
    obtain ⟨y, hy, hyb⟩ := List.mem_filterMap.1 hb
    obtain ⟨i, hi⟩ := List.getElem?_of_mem hx
    obtain ⟨j, hj⟩ := List.getElem?_of_mem hy
    have hlt : i < A.length := (List.getElem?_eq_some_iff.1 hi).1
    have hi2 : (A ++ B)[i]? = some x := by rw [List.getElem?_append_left hlt]; exact hi
    have hj2 : (A ++ B)[j + A.length]? = some y := by rw [List.getElem?_append_right (by omega)]; simpa using hj
    have := nodup_inj ho.nodup hi2 hj2 hxb hyb
    omega)
  exact h2.sub (sub_rot l1 A)
abbrev mapV (b : Nat) : Value := .map (some b)
theorem cas_bs {bs xs : List Nat} {i b : Nat} (h : b :: xs = bs.drop i) : bs[i]? = some b ∧ xs = bs.drop (i + 1) := by
  have h1 : (bs.drop i)[0]? = some b := by rw [← h]; rfl
  have h2 : (bs.drop i).drop 1 = xs := by rw [← h]; rfl
  rw [List.getElem?_drop] at h1
  rw [List.drop_drop] at h2
  exact ⟨by simpa using h1, h2.symm⟩
theorem or_lt {m k : Nat} (hm : m < 2 ^ 40) (hk : k < 40) : m ||| 1 <<< k < 2 ^ 40 := by
  refine Nat.or_lt_two_pow hm ?_
  rw [Nat.shiftLeft_eq, Nat.one_mul]
  exact Nat.pow_lt_pow_right (by decide) hk
theorem shl_lt {k : Nat} (hk : k < 40) : 1 <<< k < 9223372036854775808 := by
  rw [Nat.shiftLeft_eq, Nat.one_mul]
  exact Nat.lt_trans (Nat.pow_lt_pow_right (by decide) hk) (by decide)
theorem pw_lt {k : Nat} (hk : k < 40) : 1 * 2 ^ k < 9223372036854775808 := by
  have := shl_lt hk
  rwa [Nat.shiftLeft_eq] at this
theorem shr_lt {m : Nat} (k : Nat) (hm : m < 2 ^ 40) : m >>> k < 9223372036854775808 := Nat.lt_of_le_of_lt (Nat.shiftRight_le m k) (Nat.lt_trans hm (by decide))
theorem rfit_yes {p : Pipe} {x : Wish} (h : fits p x = true) : rfitP p x = cost p x := by unfold rfitP; rw [if_pos h]
theorem rfit_neg {p : Pipe} {x : Wish} (h : rfitP p x < 0) : fits p x = false := by
  cases hf : fits p x with
  | false => rfl
  | true => rw [rfit_yes hf] at h; have := cost_nn p x; omega
theorem rfit_pos {p : Pipe} {x : Wish} (h : ¬ rfitP p x < 0) : fits p x = true := by
  cases hf : fits p x with
  | true => rfl
  | false => unfold rfitP at h; rw [if_neg (by rw [hf]; decide)] at h; omega
end Iv
end Go.Proofs.Yteiopfefmphhaaa

set_option autoImplicit false
set_option linter.unusedVariables false
namespace Go.Proofs.Yteiopfefmphhaaa
open Go.Gv
open Go.RowKit
open Iv
set_option maxRecDepth 100000 in
set_option maxHeartbeats 1000000 in
theorem better_ok (x y : Wth) (w0 : World) : Sp Try.prog 45 [wv x, wv y] w0 [] (RV (.bool (btr x y))) := by
  refine spec_enter Try.func45 rfl Try.ntmps45 rfl (Own.refl _) ?_
  simp only [argEnv]
  refine gc_seq ?_
  refine gc_region ?_
  refine gl_op (op_box rfl rfl rfl (fun b2 => ?_))
  refine gl_op (op_box rfl rfl rfl (fun b3 => ?_))
  refine gl_op (op_rd rfl (rd_assign rfl) ?_)
  refine gl_nil ?_
  refine gx_then ?_
  refine gc_seq ?_
  refine gc_region ?_
  refine gl_op (op_rd rfl (rd_fieldAddr rfl (fa_71_0 _)) ?_)
  refine gl_op (op_rd rfl (rd_load Try.underlying3 rfl rfl (by first | exact ld_blk 0 rfl rfl | exact ld_blk 1 rfl rfl | exact ld_slN (by assumption) (get_nats (by omega)) | exact ld_slN (by assumption) (get_ints (by omega)) | exact ld_old (by assumption) (by simp) | exact ld_cells (by assumption) (by simp) rfl)) ?_)
  refine gl_op (op_rd rfl (rd_fieldAddr rfl (fa_71_0 _)) ?_)
  refine gl_op (op_rd rfl (rd_load Try.underlying3 rfl rfl (by first | exact ld_blk 0 rfl rfl | exact ld_blk 1 rfl rfl | exact ld_slN (by assumption) (get_nats (by omega)) | exact ld_slN (by assumption) (get_ints (by omega)) | exact ld_old (by assumption) (by simp) | exact ld_cells (by assumption) (by simp) rfl)) ?_)
  refine gl_op (op_rd rfl (rd_gtr rfl rfl) (gk_dec (fun h1 => ?_) (fun h1 => ?_)))
  · skip
    refine gl_op (op_rd rfl (rd_move rfl) ?_)
    refine gl_no rfl rfl rfl ?_
    refine gl_no rfl rfl rfl ?_
    refine gl_no rfl rfl rfl ?_
    refine gl_no rfl rfl rfl ?_
    refine gl_no rfl rfl rfl ?_
    refine gl_no rfl rfl rfl ?_
    refine gl_noU rfl rfl rfl ?_
    refine gl_noU rfl rfl rfl ?_
    refine gl_noU rfl rfl rfl ?_
    refine gl_noU rfl rfl rfl ?_
    refine gl_noU rfl rfl rfl ?_
    refine gl_no rfl rfl rfl ?_
    refine gl_op (op_rd rfl (rd_pick_t rfl rfl) ?_)
    refine gl_op (op_rd rfl (rd_assign rfl) ?_)
    refine gl_nil ?_
    refine gx_then ?_
    refine gc_ret ?_
    refine gx_ret1 (.inl rfl) Try.results45 rfl [] (by decide) ?_
    refine ⟨?_, rfl⟩
    unfold btr
    simp [*]
  · skip
    refine gl_op (op_rd rfl (rd_move rfl) ?_)
    refine gl_yes rfl rfl (op_rd rfl (rd_fieldAddr rfl (fa_71_0 _)) ?_)
    refine gl_yes rfl rfl (op_rd rfl (rd_load Try.underlying3 rfl rfl (by first | exact ld_blk 0 rfl rfl | exact ld_blk 1 rfl rfl | exact ld_slN (by assumption) (get_nats (by omega)) | exact ld_slN (by assumption) (get_ints (by omega)) | exact ld_old (by assumption) (by simp) | exact ld_cells (by assumption) (by simp) rfl)) ?_)
    refine gl_yes rfl rfl (op_rd rfl (rd_fieldAddr rfl (fa_71_0 _)) ?_)
    refine gl_yes rfl rfl (op_rd rfl (rd_load Try.underlying3 rfl rfl (by first | exact ld_blk 0 rfl rfl | exact ld_blk 1 rfl rfl | exact ld_slN (by assumption) (get_nats (by omega)) | exact ld_slN (by assumption) (get_ints (by omega)) | exact ld_old (by assumption) (by simp) | exact ld_cells (by assumption) (by simp) rfl)) ?_)
    refine gl_yes rfl rfl (op_rd rfl (rd_eql rfl rfl) (gk_dec (fun h2 => ?_) (fun h2 => ?_)))
    · skip
      refine gl_yes rfl rfl (op_rd rfl (rd_move rfl) ?_)
      refine gl_yes rfl rfl (op_rd rfl (rd_fieldAddr rfl (fa_71_1 _)) ?_)
      refine gl_yes rfl rfl (op_rd rfl (rd_load Try.underlying2 rfl rfl (by first | exact ld_blk 0 rfl rfl | exact ld_blk 1 rfl rfl | exact ld_slN (by assumption) (get_nats (by omega)) | exact ld_slN (by assumption) (get_ints (by omega)) | exact ld_old (by assumption) (by simp) | exact ld_cells (by assumption) (by simp) rfl)) ?_)
      refine gl_yes rfl rfl (op_rd rfl (rd_fieldAddr rfl (fa_71_1 _)) ?_)
      refine gl_yes rfl rfl (op_rd rfl (rd_load Try.underlying2 rfl rfl (by first | exact ld_blk 0 rfl rfl | exact ld_blk 1 rfl rfl | exact ld_slN (by assumption) (get_nats (by omega)) | exact ld_slN (by assumption) (get_ints (by omega)) | exact ld_old (by assumption) (by simp) | exact ld_cells (by assumption) (by simp) rfl)) ?_)
      refine gl_yes rfl rfl (op_rd rfl (rd_lss rfl rfl) ?_)
      refine gl_yes rfl rfl (op_rd rfl (rd_pick_t rfl rfl) ?_)
      refine gl_op (op_rd rfl (rd_pick_f rfl rfl) ?_)
      refine gl_op (op_rd rfl (rd_assign rfl) ?_)
      refine gl_nil ?_
      refine gx_then ?_
      refine gc_ret ?_
      refine gx_ret1 (.inl rfl) Try.results45 rfl [] (by decide) ?_
      refine ⟨?_, rfl⟩
      unfold btr
      simp [*]
    · skip
      refine gl_yes rfl rfl (op_rd rfl (rd_move rfl) ?_)
      refine gl_no rfl rfl rfl ?_
      refine gl_no rfl rfl rfl ?_
      refine gl_no rfl rfl rfl ?_
      refine gl_no rfl rfl rfl ?_
      refine gl_no rfl rfl rfl ?_
      refine gl_yes rfl rfl (op_rd rfl (rd_pick_f rfl rfl) ?_)
      refine gl_op (op_rd rfl (rd_pick_f rfl rfl) ?_)
      refine gl_op (op_rd rfl (rd_assign rfl) ?_)
      refine gl_nil ?_
      refine gx_then ?_
      refine gc_ret ?_
      refine gx_ret1 (.inl rfl) Try.results45 rfl [] (by decide) ?_
      refine ⟨?_, rfl⟩
      unfold btr
      simp [*]

set_option maxRecDepth 100000 in
set_option maxHeartbeats 4000000 in
theorem sbest_ok {l : List Pipe} {w : List Wish} (hd : Dat l w) (bs : List Nat) (s : Addr) (a b kr : Option Addr) (ca cb kc : Nat) (hbl : bs.length = w.length) (f : Nat) : ∀ (i mask : Nat) (T : List Ca) (w0 : World) (hif : i + f = w.length) (hb : T.map Ca.b = bs.drop i) (hc : CasOk l w i T) (hown : Own w0 (T.map Ca.b) w0 (T.map Ca.hl)) (hm : mask < 2 ^ 40) (hsc : Cells w0 s [.slice a l.length ca, .slice b w.length cb, .slice kr w.length kc]) (hso : s.block ∉ T.map Ca.b) (hl : OldSl w0 (T.map Ca.b) a l.length 3 (l.flatMap Pipe.cells)) (hw : OldSl w0 (T.map Ca.b) b w.length 5 (w.flatMap Wish.cells)) (hk : OldSl w0 (T.map Ca.b) kr w.length 1 (bs.map mapV)), Sp Try.prog 34 [.pointer (some s), natV i, natV mask] w0 (T.map Ca.b) (fun v L => v = wv (srcW l w f i mask) ∧ ∃ T', L = T'.map Ca.hl ∧ T'.map Ca.b = bs.drop i ∧ CasOk l w i T') := by
  induction f using Nat.strongRecOn with | _ f ih => ?_
  intro i mask T w0 hif hb hc hown hm hsc hso hl hw hk
  refine spec_enter Try.func34 rfl Try.ntmps34 rfl hown ?_
  simp only [argEnv]
  refine gc_seq ?_
  refine gc_region ?_
  refine gl_op (op_alloc ty_71 rfl rfl (fun b6 => ?_))
  refine gl_nil ?_
  refine gx_then ?_
  refine gc_seq ?_
  refine gc_seq ?_
  refine gc_region ?_
  refine gl_op (op_rd rfl (rd_move rfl) ?_)
  refine gl_op (op_rd rfl (rd_move rfl) ?_)
  refine gl_op (op_rd rfl (rd_nilCheck rfl) ?_)
  refine gl_op (op_rd rfl (rd_fieldAddr rfl (fa_85_1 _)) ?_)
  refine gl_op (op_rd rfl (rd_load Try.underlying23 rfl rfl (ld_cells (j := 1) hsc hso rfl)) ?_)
  refine gl_op (op_rd rfl (rd_lenSlice Try.underlying23 rfl) ?_)
  refine gl_op (op_rd rfl (rd_eql rfl rfl) (gk_dec (fun h18 => ?_) (fun h18 => ?_)))
  · skip
    obtain rfl : f = 0 := by omega
    refine gl_nil ?_
    refine gx_then ?_
    refine gc_cond_t rfl ?_
    refine gc_seq ?_
    refine gc_region ?_
    refine gl_op (op_rd rfl (rd_build rfl (fun _ => bd_71_)) ?_)
    refine gl_op (op_storeAgg 0 ty_71 rfl rfl rfl rfl rfl rfl (by first | rfl | (simp only [List.set_cons_succ, List.set_cons_zero]; exact rfl)) ?_)
    refine gl_nil ?_
    refine gx_then ?_
    refine gc_ret ?_
    refine gx_then_ret ?_
    refine gx_retV1S (.inl rfl) Try.results34 (rv_agg Try.underlying71 rfl ty_71 rfl (by rfl) (cs_blk 0 (off := 0) (k := 2) rfl rfl)) (sub_tail (A := []) (B := [_]) (T := (T.map Ca.hl)) [] 1 (by decide) (by decide) rfl rfl) ?_
    exact ⟨rfl, T, rfl, hb, hc⟩
  · skip
    obtain ⟨f1, rfl⟩ : ∃ f1, f = f1 + 1 := ⟨f - 1, by omega⟩
    obtain ⟨c, T1, rfl⟩ : ∃ c T1, T = c :: T1 := by
      cases T with
      | nil => have := cas_len hc; simp only [List.length_nil] at this; omega
      | cons c T1 => exact ⟨c, T1, rfl⟩
    obtain ⟨cb1, es, nb, m⟩ := c
    obtain ⟨hbi, hb1⟩ := cas_bs (b := cb1) (xs := T1.map Ca.b) hb
    obtain ⟨_, ⟨hkv, hval⟩, hc1⟩ := hc
    have hsub : ∀ z ∈ T1.map Ca.b, z ∈ List.map Ca.b (⟨cb1, es, nb, m⟩ :: T1) := fun z hz => List.mem_cons_of_mem _ hz
    have hwl := hd.wn
    have hln := hd.ln
    change GK _ _ _ _ _ (_ :: .obj cb1 (.map es.toArray nb) :: T1.map Ca.hl)
    have hkv : KV es (kvW m) := hkv
    have hval : ∀ p ∈ m, p.2 = srcW l w (w.length - i) i p.1 := hval
    rw [show w.length - i = f1 + 1 by omega] at hval
    refine gl_nil ?_
    refine gx_then ?_
    refine gc_cond_f rfl ?_
    refine gc_skip ?_
    refine gx_then ?_
    refine gc_seq ?_
    refine gc_region ?_
    refine gl_op (op_rd rfl (rd_move rfl) ?_)
    refine gl_op (op_rd rfl (rd_nilCheck rfl) ?_)
    refine gl_op (op_rd rfl (rd_fieldAddr rfl (fa_85_2 _)) ?_)
    refine gl_op (op_rd rfl (rd_load Try.underlying83 rfl rfl (ld_cells (j := 2) hsc hso rfl)) ?_)
    refine gl_op (op_rd rfl (rd_move rfl) ?_)
    refine gl_op (op_rd rfl (rd_indexOld1 hk Try.underlying83 ty_86 rfl rfl (by omega) (by omega)) ?_)
    refine gl_op (op_rd rfl (rd_load Try.underlying86 rfl rfl (ld_slN hk (show (bs.map mapV)[i]? = some (mapV cb1) by rw [List.getElem?_map, hbi]; rfl))) ?_)
    refine gl_op (op_rd rfl (rd_move rfl) ?_)
    refine gl_op (op_rd rfl (rd_look 1 hkv rfl Try.underlying86 Try.underlying2 ty_71 rfl rfl) ?_)
    refine gl_op (op_rd rfl (rd_move rfl) ?_)
    refine gl_op (op_rd rfl (rd_extract rfl rfl) ?_)
    refine gl_op (op_rd rfl (rd_extract rfl rfl) ?_)
    refine gl_op (op_alloc ty_71 rfl rfl (fun b7 => ?_))
    first | refine gl_op (op_storeAgg 0 ty_71 rfl rfl rfl rfl rfl rfl (by first | rfl | (simp only [List.set_cons_succ, List.set_cons_zero]; exact rfl)) ?_) | refine gl_op (op_storeAgg 1 ty_71 rfl rfl rfl rfl rfl rfl (by first | rfl | (simp only [List.set_cons_succ, List.set_cons_zero]; exact rfl)) ?_)
    refine gl_op (op_rd rfl (rd_assign rfl) ?_)
    refine gk_bool (fun hfd => ?_) (fun hfd => ?_)
    · skip
      obtain ⟨vv, hvv⟩ := Option.isSome_iff_exists.1 hfd
      have hve := hval _ (look_mem hvv)
      simp only at hve
      rw [hvv, Option.getD_some, hve]
      refine gl_nil ?_
      refine gx_then ?_
      refine gc_seq ?_
      refine gc_seq ?_
      refine gc_region ?_
      refine gl_op (op_rd rfl (rd_move rfl) ?_)
      refine gl_nil ?_
      refine gx_then ?_
      refine gc_cond_t rfl ?_
      refine gc_seq ?_
      refine gc_region ?_
      refine gl_op (op_rd rfl (rd_loadAgg Try.underlying71 rfl ty_71 rfl (by first | exact cs_blk 0 (off := 0) (k := 2) rfl rfl | exact cs_blk 1 (off := 0) (k := 2) rfl rfl | exact cs_old (by assumption) (by simp)) rfl) ?_)
      first | refine gl_op (op_storeAgg 0 ty_71 rfl rfl rfl rfl rfl rfl (by first | rfl | (simp only [List.set_cons_succ, List.set_cons_zero]; exact rfl)) ?_) | refine gl_op (op_storeAgg 1 ty_71 rfl rfl rfl rfl rfl rfl (by first | rfl | (simp only [List.set_cons_succ, List.set_cons_zero]; exact rfl)) ?_)
      refine gl_nil ?_
      refine gx_then ?_
      refine gc_ret ?_
      refine gx_then_ret ?_
      refine gx_retV1S (.inl rfl) Try.results34 (rv_agg Try.underlying71 rfl ty_71 rfl (by rfl) (cs_blk 1 (off := 0) (k := 2) rfl rfl)) (sub_tail (A := [_]) (B := [_, _, _]) (T := (T1.map Ca.hl)) [2] 3 (by decide) (by decide) rfl rfl) ?_
      exact ⟨rfl, ⟨cb1, es, nb, m⟩ :: T1, rfl, hb, by omega, ⟨hkv, fun p hp => by rw [show w.length - i = f1 + 1 by omega]; exact hval p hp⟩, hc1⟩
    · skip
      have hlk : lookW mask m = none := by cases h : lookW mask m with
        | none => rfl
        | some v => rw [h] at hfd; cases hfd
      clear hfd
      refine gl_nil ?_
      refine gx_then ?_
      refine gc_seq ?_
      refine gc_seq ?_
      refine gc_region ?_
      refine gl_op (op_rd rfl (rd_move rfl) ?_)
      refine gl_nil ?_
      refine gx_then ?_
      refine gc_cond_f rfl ?_
      refine gc_skip ?_
      refine gx_then ?_
      refine gc_seq ?_
      refine gc_region ?_
      refine gl_op (op_rd rfl (rd_move rfl) ?_)
      refine gl_op (op_rd rfl (rd_move rfl) ?_)
      refine gl_op (op_rd rfl (by first | exact rd_addN (b := 1) rfl rfl (by omega) | exact rd_add rfl rfl (by omega) (by omega)) ?_)
      refine gl_op (op_rd rfl (rd_move rfl) ?_)
      refine gl_op (op_callT [_, _, _] (T1.map Ca.hl) rfl rfl (vf := []) (vc := []) rfl rfl Try.call34 (Sc := T1.map Ca.b) (blk_cas T1).symm (fun wz ho hcc => ih f1 (by omega) (i + 1) mask T1 wz (by omega) hb1 hc1 hcc hm (hsc.atS ho hso) (fun h => hso (hsub _ h)) (hl.atSub ho hsub) (hw.atSub ho hsub) (hk.atSub ho hsub)) ?_)
      rintro _ _ ⟨rfl, T2, rfl, hb2, hc2⟩
      first | refine gl_op (op_storeAgg 0 ty_71 rfl rfl rfl rfl rfl rfl (by first | rfl | (simp only [List.set_cons_succ, List.set_cons_zero]; exact rfl)) ?_) | refine gl_op (op_storeAgg 1 ty_71 rfl rfl rfl rfl rfl rfl (by first | rfl | (simp only [List.set_cons_succ, List.set_cons_zero]; exact rfl)) ?_)
      refine gl_nil ?_
      refine gx_then ?_
      refine gc_seq ?_
      refine gc_seq ?_
      refine gc_region ?_
      refine gl_op (op_rd rfl (rd_assign rfl) ?_)
      refine gl_nil ?_
      refine gx_then ?_
      refine gc_block ?_
      refine gc_loopF (ι := Nat × Wth × List Ca) [(0, _), (1, _), (2, _), (6, _), (7, _)] [_, _] (fun j => j.1 ≤ l.length ∧ j.2.1 = foldW l (w.getD i default) (srcW l w f1 (i + 1)) mask j.1 ∧ j.2.2.map Ca.b = bs.drop (i + 1) ∧ CasOk l w (i + 1) j.2.2) (fun j Fr0 => ((9, natV j.1) :: Fr0)) (fun j Fr0 => (.blk b7 [.int .i64 j.2.1.1, .int .i64 j.2.1.2] 71 :: (Fr0 ++ j.2.2.map Ca.hl))) (fun j => l.length - j.1) (0, srcW l w f1 (i + 1) mask, T2) (⟨Nat.zero_le _, rfl, hb2, hc2⟩) ⟨rfl, rfl, rfl, rfl, rfl, rfl, trivial⟩ (sub_tail (A := [_, _, _]) (B := [_, _, _]) (T := (T2.map Ca.hl)) [0, 1, 2] 3 (by decide) (by decide) rfl rfl) ?_
      rintro ⟨k, X, T3⟩ ⟨hkl, hX, hb3, hc3⟩
      simp only at hkl hX hb3 hc3 ⊢
      refine gc_seq ?_
      refine gc_seq ?_
      refine gc_region ?_
      refine gl_op (op_rd rfl (rd_move rfl) ?_)
      refine gl_op (op_rd rfl (rd_move rfl) ?_)
      refine gl_op (op_rd rfl (rd_nilCheck rfl) ?_)
      refine gl_op (op_rd rfl (rd_fieldAddr rfl (fa_85_0 _)) ?_)
      refine gl_op (op_rd rfl (rd_load Try.underlying22 rfl rfl (ld_cells (j := 0) hsc hso rfl)) ?_)
      refine gl_op (op_rd rfl (rd_lenSlice Try.underlying22 rfl) ?_)
      refine gl_op (op_rd rfl (rd_lss rfl rfl) (gk_dec (fun hlt => ?_) (fun hlt => ?_)))
      · skip
        obtain ⟨p, hp⟩ := get_some (show k < l.length by omega)
        obtain ⟨x, hx⟩ := get_some (show i < w.length by omega)
        have hpd : l.getD k default = p := getD_some hp
        have hxd : w.getD i default = x := getD_some hx
        have hpo := hd.p p (List.mem_of_getElem? hp)
        have hxo := hd.w x (List.mem_of_getElem? hx)
        rw [hxd] at hX
        refine gl_nil ?_
        refine gx_then ?_
        refine gc_cond_t rfl ?_
        refine gc_skip ?_
        refine gx_then ?_
        refine gc_seq ?_
        refine gc_block ?_
        refine gc_seq ?_
        refine gc_drawP [0, 1, 2] true 15 rfl ?_
        refine ga_first 0 #[true, false, false, false, false, false, false, false, false, false, false, false, false, false, false, false] rfl rfl rfl rfl (by kernel_rfl) rfl ⟨[0, 1, 2], by decide, rfl⟩ (qt_rd (rd_move rfl)) ?_
        refine ga_first 1 #[true, true, false, false, false, false, false, false, false, false, false, false, false, false, false, false] rfl rfl rfl rfl (by kernel_rfl) rfl ⟨[0, 1, 2], by decide, rfl⟩ (qt_rd (rd_nilCheck rfl)) ?_
        refine ga_first 2 #[true, true, true, false, false, false, false, false, false, false, false, false, false, false, false, false] rfl rfl rfl rfl (by kernel_rfl) rfl ⟨[0, 1, 2], by decide, rfl⟩ (qt_rd (rd_fieldAddr rfl (fa_85_0 _))) ?_
        refine ga_first 3 #[true, true, true, true, false, false, false, false, false, false, false, false, false, false, false, false] rfl rfl rfl rfl (by kernel_rfl) rfl ⟨[0, 1, 2], by decide, rfl⟩ (qt_rd (rd_load Try.underlying22 rfl rfl (ld_cells (j := 0) hsc hso rfl))) ?_
        refine ga_first 4 #[true, true, true, true, true, false, false, false, false, false, false, false, false, false, false, false] rfl rfl rfl rfl (by kernel_rfl) rfl ⟨[0, 1, 2], by decide, rfl⟩ (qt_rd (rd_move rfl)) ?_
        refine ga_first 5 #[true, true, true, true, true, true, false, false, false, false, false, false, false, false, false, false] rfl rfl rfl rfl (by kernel_rfl) rfl ⟨[0, 1, 2], by decide, rfl⟩ (qt_rd (rd_indexOld hl Try.underlying22 ty_25 rfl rfl (by omega) (by omega))) ?_
        refine ga_first 6 #[true, true, true, true, true, true, true, false, false, false, false, false, false, false, false, false] rfl rfl rfl rfl (by kernel_rfl) rfl ⟨[0, 1, 2], by decide, rfl⟩ (qt_rd (rd_loadAgg Try.underlying25 rfl ty_25 rfl (cs_slN hl (flat_drop_get Pipe.cells 3 (fun _ => rfl) hp)) rfl)) ?_
        refine ga_first 7 #[true, true, true, true, true, true, true, true, false, false, false, false, false, false, false, false] rfl rfl rfl rfl (by kernel_rfl) rfl ⟨[0, 1, 2], by decide, rfl⟩ (qt_rd (rd_move rfl)) ?_
        refine ga_first 8 #[true, true, true, true, true, true, true, true, true, false, false, false, false, false, false, false] rfl rfl rfl rfl (by kernel_rfl) rfl ⟨[0, 1, 2], by decide, rfl⟩ (qt_rd (rd_nilCheck rfl)) ?_
        refine ga_first 9 #[true, true, true, true, true, true, true, true, true, true, false, false, false, false, false, false] rfl rfl rfl rfl (by kernel_rfl) rfl ⟨[0, 1, 2], by decide, rfl⟩ (qt_rd (rd_fieldAddr rfl (fa_85_1 _))) ?_
        refine ga_first 10 #[true, true, true, true, true, true, true, true, true, true, true, false, false, false, false, false] rfl rfl rfl rfl (by kernel_rfl) rfl ⟨[0, 1, 2], by decide, rfl⟩ (qt_rd (rd_load Try.underlying23 rfl rfl (ld_cells (j := 1) hsc hso rfl))) ?_
        refine ga_first 11 #[true, true, true, true, true, true, true, true, true, true, true, true, false, false, false, false] rfl rfl rfl rfl (by kernel_rfl) rfl ⟨[0, 1, 2], by decide, rfl⟩ (qt_rd (rd_move rfl)) ?_
        refine ga_first 12 #[true, true, true, true, true, true, true, true, true, true, true, true, true, false, false, false] rfl rfl rfl rfl (by kernel_rfl) rfl ⟨[0, 1, 2], by decide, rfl⟩ (qt_rd (rd_indexOld hw Try.underlying23 ty_29 rfl rfl (by omega) (by omega))) ?_
        refine ga_first 13 #[true, true, true, true, true, true, true, true, true, true, true, true, true, true, false, false] rfl rfl rfl rfl (by kernel_rfl) rfl ⟨[0, 1, 2], by decide, rfl⟩ (qt_rd (rd_loadAgg Try.underlying29 rfl ty_29 rfl (cs_slN hw (flat_drop_get Wish.cells 5 (fun _ => rfl) hx)) rfl)) ?_
        refine ga_first 14 #[true, true, true, true, true, true, true, true, true, true, true, true, true, true, true, false] rfl rfl rfl rfl (by kernel_rfl) rfl ⟨[0, 1, 2], by decide, rfl⟩ (qt_call (vf := []) (vc := []) rfl rfl Try.call26 (fun w1 ho => rfit_ok p x hpo hxo w1) (by rintro _ _ ⟨h, _⟩; exact h)) ?_
        refine ga_first 15 #[true, true, true, true, true, true, true, true, true, true, true, true, true, true, true, true] rfl rfl rfl rfl (by kernel_rfl) rfl ⟨[0, 1, 2], by decide, rfl⟩ (qt_rd (rd_assign rfl)) ?_
        refine ga_end (by kernel_rfl) (.inr ⟨[0, 1, 2], by decide, rfl⟩) ?_
        refine gx_then ?_
        refine gc_seq ?_
        refine gc_seq ?_
        refine gc_region ?_
        refine gl_op (op_rd rfl (rd_move rfl) ?_)
        refine gl_op (op_rd rfl (rd_lss rfl rfl) (gk_dec (fun h64 => ?_) (fun h64 => ?_)))
        · skip
          have hoff : offW p x mask k = true := by unfold offW; rw [rfit_neg h64]; rfl
          refine gl_op (op_rd rfl (rd_move rfl) ?_)
          refine gl_no rfl rfl rfl ?_
          refine gl_no rfl rfl rfl ?_
          refine gl_no rfl rfl rfl ?_
          refine gl_no rfl rfl rfl ?_
          refine gl_no rfl rfl rfl ?_
          refine gl_no rfl rfl rfl ?_
          refine gl_op (op_rd rfl (rd_pick_t rfl rfl) ?_)
          refine gl_nil ?_
          refine gx_then ?_
          refine gc_cond_t rfl ?_
          refine gc_exit ?_
          refine gx_then_exit ?_
          refine gx_block_exit ?_
          refine gx_then ?_
          refine gc_region ?_
          refine gl_op (op_rd rfl (rd_move rfl) ?_)
          refine gl_op (op_rd rfl (by first | exact rd_addN (b := 1) rfl rfl (by omega) | exact rd_add rfl rfl (by omega) (by omega)) ?_)
          refine gl_op (op_rd rfl (rd_assign rfl) ?_)
          refine gl_nil ?_
          refine gx_then ?_
          exact gx_cut ((k + 1, X, T3)) ⟨⟨by simp only; omega, by simp only; rw [foldW_succ, hxd, ← hX]; unfold stepW; rw [hpd, if_pos hoff], hb3, hc3⟩, by simp only; omega⟩ ⟨rfl, rfl, rfl, rfl, rfl, rfl, trivial⟩ (sub_tail (A := [_, _, _]) (B := [_, _, _]) (T := (T3.map Ca.hl)) [0, 1, 2] 3 (by decide) (by decide) rfl rfl)
        · skip
          have hfit := rfit_pos h64
          have hcn := cost_nn p x
          have hcl := cost_le hpo hxo hfit
          refine gl_op (op_rd rfl (rd_move rfl) ?_)
          refine gl_yes rfl rfl (op_rd rfl (rd_move rfl) ?_)
          refine gl_yes rfl rfl (op_rd rfl (rd_move rfl) ?_)
          refine gl_yes rfl rfl (op_rd rfl (rd_conv Try.runUnderlying3 Try.runUnderlying73 rfl (wrap_u64_nat (by omega))) ?_)
          refine gl_yes rfl rfl (op_rd rfl (rd_shr rfl rfl (Nat.lt_trans hm (by decide))) ?_)
          refine gl_yes rfl rfl (op_rd rfl (rd_and (b := 1) rfl rfl (by first | exact shr_lt k hm | omega) (by first | exact shr_lt k hm | omega)) ?_)
          refine gl_yes rfl rfl (op_rd rfl (rd_eql rfl rfl) (gk_dec (fun h71 => ?_) (fun h71 => ?_)))
          · skip
            have hoff : offW p x mask k = true := by unfold offW bitN; rw [decide_eq_true (show mask >>> k &&& 1 = 1 by omega), Bool.or_true]
            refine gl_op (op_rd rfl (rd_pick_f rfl rfl) ?_)
            refine gl_nil ?_
            refine gx_then ?_
            refine gc_cond_t rfl ?_
            refine gc_exit ?_
            refine gx_then_exit ?_
            refine gx_block_exit ?_
            refine gx_then ?_
            refine gc_region ?_
            refine gl_op (op_rd rfl (rd_move rfl) ?_)
            refine gl_op (op_rd rfl (by first | exact rd_addN (b := 1) rfl rfl (by omega) | exact rd_add rfl rfl (by omega) (by omega)) ?_)
            refine gl_op (op_rd rfl (rd_assign rfl) ?_)
            refine gl_nil ?_
            refine gx_then ?_
            exact gx_cut ((k + 1, X, T3)) ⟨⟨by simp only; omega, by simp only; rw [foldW_succ, hxd, ← hX]; unfold stepW; rw [hpd, if_pos hoff], hb3, hc3⟩, by simp only; omega⟩ ⟨rfl, rfl, rfl, rfl, rfl, rfl, trivial⟩ (sub_tail (A := [_, _, _]) (B := [_, _, _]) (T := (T3.map Ca.hl)) [0, 1, 2] 3 (by decide) (by decide) rfl rfl)
          · skip
            have hoff : offW p x mask k = false := by unfold offW bitN; rw [hfit, decide_eq_false (show ¬ mask >>> k &&& 1 = 1 by omega)]; rfl
            rw [rfit_yes hfit]
            refine gl_op (op_rd rfl (rd_pick_f rfl rfl) ?_)
            refine gl_nil ?_
            refine gx_then ?_
            refine gc_cond_f rfl ?_
            refine gc_skip ?_
            refine gx_then ?_
            refine gc_seq ?_
            refine gc_region ?_
            refine gl_op (op_rd rfl (rd_move rfl) ?_)
            refine gl_op (op_rd rfl (rd_move rfl) ?_)
            refine gl_op (op_rd rfl (by first | exact rd_addN (b := 1) rfl rfl (by omega) | exact rd_add rfl rfl (by omega) (by omega)) ?_)
            refine gl_op (op_rd rfl (rd_move rfl) ?_)
            refine gl_op (op_rd rfl (rd_move rfl) ?_)
            refine gl_op (op_rd rfl (rd_conv Try.runUnderlying3 Try.runUnderlying73 rfl (wrap_u64_nat (by omega))) ?_)
            refine gl_op (op_rd rfl (rd_shl (a := 1) rfl rfl (by first | exact pw_lt (by omega) | omega) (by first | exact pw_lt (by omega) | omega)) ?_)
            refine gl_op (op_rd rfl (rd_or rfl rfl (by first | exact Nat.lt_trans hm (by decide) | exact shl_lt (by omega)) (by first | exact Nat.lt_trans hm (by decide) | exact shl_lt (by omega))) ?_)
            have hy := src_wok hd f1 (i + 1) (mask ||| 1 <<< k) (by omega)
            obtain ⟨Y, hY⟩ : ∃ Y, srcW l w f1 (i + 1) (mask ||| 1 <<< k) = Y := ⟨_, rfl⟩
            rw [hY] at hy
            have hy0 := hy.a0
            have hy1 := hy.a1
            have hy2 := hy.b0
            have hy3 := hy.b1
            have hT3 : T3.map Ca.b = T1.map Ca.b := hb3.trans hb1.symm
            have hsub3 : ∀ z ∈ T3.map Ca.b, z ∈ List.map Ca.b (⟨cb1, es, nb, m⟩ :: T1) := fun z hz => hsub z (by rw [← hT3]; exact hz)
            refine gl_op (op_callT [_, _, _] (T3.map Ca.hl) rfl rfl (vf := []) (vc := []) rfl rfl Try.call34 (Sc := T3.map Ca.b) (blk_cas T3).symm (fun wz ho hcc => ih f1 (by omega) (i + 1) (mask ||| 1 <<< k) T3 wz (by omega) hb3 hc3 hcc (or_lt hm (by omega)) (hsc.atS ho hso) (fun h => hso (hsub3 _ h)) (hl.atSub ho hsub3) (hw.atSub ho hsub3) (hk.atSub ho hsub3)) ?_)
            rintro _ _ ⟨rfl, T4, rfl, hb4, hc4⟩
            rw [hY]
            refine gl_op (op_alloc ty_71 rfl rfl (fun b11 => ?_))
            first | refine gl_op (op_storeAgg 0 ty_71 rfl rfl rfl rfl rfl rfl (by first | rfl | (simp only [List.set_cons_succ, List.set_cons_zero]; exact rfl)) ?_) | refine gl_op (op_storeAgg 1 ty_71 rfl rfl rfl rfl rfl rfl (by first | rfl | (simp only [List.set_cons_succ, List.set_cons_zero]; exact rfl)) ?_) | refine gl_op (op_storeAgg 2 ty_71 rfl rfl rfl rfl rfl rfl (by first | rfl | (simp only [List.set_cons_succ, List.set_cons_zero]; exact rfl)) ?_)
            refine gl_nil ?_
            refine gx_then ?_
            refine gc_seq ?_
            refine gc_region ?_
            refine gl_op (op_rd rfl (rd_fieldAddr rfl (fa_71_0 _)) ?_)
            refine gl_op (op_rd rfl (rd_load Try.underlying3 rfl rfl (by first | exact ld_blk 0 rfl rfl | exact ld_blk 1 rfl rfl | exact ld_blk 2 rfl rfl | exact ld_slN (by assumption) (get_nats (by omega)) | exact ld_slN (by assumption) (get_ints (by omega)) | exact ld_old (by assumption) (by simp) | exact ld_cells (by assumption) (by simp) rfl)) ?_)
            refine gl_op (op_rd rfl (rd_add rfl rfl (by omega) (by omega)) ?_)
            refine gl_op (op_rd rfl (rd_fieldAddr rfl (fa_71_1 _)) ?_)
            refine gl_op (op_rd rfl (rd_load Try.underlying2 rfl rfl (by first | exact ld_blk 0 rfl rfl | exact ld_blk 1 rfl rfl | exact ld_blk 2 rfl rfl | exact ld_slN (by assumption) (get_nats (by omega)) | exact ld_slN (by assumption) (get_ints (by omega)) | exact ld_old (by assumption) (by simp) | exact ld_cells (by assumption) (by simp) rfl)) ?_)
            refine gl_op (op_rd rfl (rd_move rfl) ?_)
            refine gl_op (op_rd rfl (rd_add rfl rfl (by omega) (by omega)) ?_)
            refine gl_op (op_rd rfl (rd_build rfl (fun _ => bd_71_0_1 _ _)) ?_)
            first | refine gl_op (op_storeAgg 0 ty_71 rfl rfl rfl rfl rfl rfl (by first | rfl | (simp only [List.set_cons_succ, List.set_cons_zero]; exact rfl)) ?_) | refine gl_op (op_storeAgg 1 ty_71 rfl rfl rfl rfl rfl rfl (by first | rfl | (simp only [List.set_cons_succ, List.set_cons_zero]; exact rfl)) ?_) | refine gl_op (op_storeAgg 2 ty_71 rfl rfl rfl rfl rfl rfl (by first | rfl | (simp only [List.set_cons_succ, List.set_cons_zero]; exact rfl)) ?_)
            refine gl_nil ?_
            refine gx_then ?_
            refine gc_seq ?_
            refine gc_region ?_
            refine gl_op (op_rd rfl (rd_loadAgg Try.underlying71 rfl ty_71 rfl (by first | exact cs_blk 0 (off := 0) (k := 2) rfl rfl | exact cs_blk 1 (off := 0) (k := 2) rfl rfl | exact cs_blk 2 (off := 0) (k := 2) rfl rfl | exact cs_old (by assumption) (by simp)) rfl) ?_)
            refine gl_op (op_rd rfl (rd_loadAgg Try.underlying71 rfl ty_71 rfl (by first | exact cs_blk 0 (off := 0) (k := 2) rfl rfl | exact cs_blk 1 (off := 0) (k := 2) rfl rfl | exact cs_blk 2 (off := 0) (k := 2) rfl rfl | exact cs_old (by assumption) (by simp)) rfl) ?_)
            refine gl_op (op_call rfl (vf := []) (vc := []) rfl rfl Try.call45 (fun w1 ho => better_ok (tryW p x Y) X w1) ?_)
            rintro _ _ ⟨rfl, rfl⟩
            refine gk_bool (fun h92 => ?_) (fun h92 => ?_)
            · skip
              refine gl_nil ?_
              refine gx_then ?_
              refine gc_cond_t rfl ?_
              refine gc_region ?_
              refine gl_op (op_rd rfl (rd_loadAgg Try.underlying71 rfl ty_71 rfl (by first | exact cs_blk 0 (off := 0) (k := 2) rfl rfl | exact cs_blk 1 (off := 0) (k := 2) rfl rfl | exact cs_blk 2 (off := 0) (k := 2) rfl rfl | exact cs_old (by assumption) (by simp)) rfl) ?_)
              first | refine gl_op (op_storeAgg 0 ty_71 rfl rfl rfl rfl rfl rfl (by first | rfl | (simp only [List.set_cons_succ, List.set_cons_zero]; exact rfl)) ?_) | refine gl_op (op_storeAgg 1 ty_71 rfl rfl rfl rfl rfl rfl (by first | rfl | (simp only [List.set_cons_succ, List.set_cons_zero]; exact rfl)) ?_) | refine gl_op (op_storeAgg 2 ty_71 rfl rfl rfl rfl rfl rfl (by first | rfl | (simp only [List.set_cons_succ, List.set_cons_zero]; exact rfl)) ?_)
              refine gl_nil ?_
              refine gx_block ?_
              refine gx_then ?_
              refine gc_region ?_
              refine gl_op (op_rd rfl (rd_move rfl) ?_)
              refine gl_op (op_rd rfl (by first | exact rd_addN (b := 1) rfl rfl (by omega) | exact rd_add rfl rfl (by omega) (by omega)) ?_)
              refine gl_op (op_rd rfl (rd_assign rfl) ?_)
              refine gl_nil ?_
              refine gx_then ?_
              exact gx_cut ((k + 1, tryW p x Y, T4)) ⟨⟨by simp only; omega, by simp only; rw [foldW_succ, hxd, ← hX]; unfold stepW; rw [hpd, if_neg (by rw [hoff]; decide), hY, if_pos h92], hb4, hc4⟩, by simp only; omega⟩ ⟨rfl, rfl, rfl, rfl, rfl, rfl, trivial⟩ (sub_tail (A := [_, _, _]) (B := [_, _, _, _]) (T := (T4.map Ca.hl)) [1, 2, 3] 4 (by decide) (by decide) rfl rfl)
            · skip
              refine gl_nil ?_
              refine gx_then ?_
              refine gc_cond_f rfl ?_
              refine gc_skip ?_
              refine gx_block ?_
              refine gx_then ?_
              refine gc_region ?_
              refine gl_op (op_rd rfl (rd_move rfl) ?_)
              refine gl_op (op_rd rfl (by first | exact rd_addN (b := 1) rfl rfl (by omega) | exact rd_add rfl rfl (by omega) (by omega)) ?_)
              refine gl_op (op_rd rfl (rd_assign rfl) ?_)
              refine gl_nil ?_
              refine gx_then ?_
              exact gx_cut ((k + 1, X, T4)) ⟨⟨by simp only; omega, by simp only; rw [foldW_succ, hxd, ← hX]; unfold stepW; rw [hpd, if_neg (by rw [hoff]; decide), hY, if_neg (by rw [h92]; decide)], hb4, hc4⟩, by simp only; omega⟩ ⟨rfl, rfl, rfl, rfl, rfl, rfl, trivial⟩ (sub_tail (A := [_, _, _]) (B := [_, _, _, _]) (T := (T4.map Ca.hl)) [1, 2, 3] 4 (by decide) (by decide) rfl rfl)
      · skip
        refine gl_nil ?_
        refine gx_then ?_
        refine gc_cond_f rfl ?_
        refine gc_exit ?_
        refine gx_then_exit ?_
        refine gx_then_exit ?_
        refine gx_block_exit ?_
        refine gx_then ?_
        refine gc_seq ?_
        refine gc_drawP [0, 1] false 9 rfl ?_
        refine ga_first 0 #[true, false, false, false, false, false, false, false, false, false] rfl rfl rfl rfl (by kernel_rfl) rfl ⟨[0, 1], by decide, rfl⟩ (qt_rd (rd_move rfl)) ?_
        refine ga_first 1 #[true, true, false, false, false, false, false, false, false, false] rfl rfl rfl rfl (by kernel_rfl) rfl ⟨[0, 1], by decide, rfl⟩ (qt_rd (rd_nilCheck rfl)) ?_
        refine ga_first 2 #[true, true, true, false, false, false, false, false, false, false] rfl rfl rfl rfl (by kernel_rfl) rfl ⟨[0, 1], by decide, rfl⟩ (qt_rd (rd_fieldAddr rfl (fa_85_2 _))) ?_
        refine ga_first 3 #[true, true, true, true, false, false, false, false, false, false] rfl rfl rfl rfl (by kernel_rfl) rfl ⟨[0, 1], by decide, rfl⟩ (qt_rd (rd_load Try.underlying83 rfl rfl (ld_cells (j := 2) hsc hso rfl))) ?_
        refine ga_first 4 #[true, true, true, true, true, false, false, false, false, false] rfl rfl rfl rfl (by kernel_rfl) rfl ⟨[0, 1], by decide, rfl⟩ (qt_rd (rd_move rfl)) ?_
        refine ga_first 5 #[true, true, true, true, true, true, false, false, false, false] rfl rfl rfl rfl (by kernel_rfl) rfl ⟨[0, 1], by decide, rfl⟩ (qt_rd (rd_indexOld1 hk Try.underlying83 ty_86 rfl rfl (by omega) (by omega))) ?_
        refine ga_first 6 #[true, true, true, true, true, true, true, false, false, false] rfl rfl rfl rfl (by kernel_rfl) rfl ⟨[0, 1], by decide, rfl⟩ (qt_rd (rd_load Try.underlying86 rfl rfl (ld_slN hk (show (bs.map mapV)[i]? = some (mapV cb1) by rw [List.getElem?_map, hbi]; rfl)))) ?_
        refine ga_first 7 #[true, true, true, true, true, true, true, true, false, false] rfl rfl rfl rfl (by kernel_rfl) rfl ⟨[0, 1], by decide, rfl⟩ (qt_rd (rd_move rfl)) ?_
        refine ga_first 8 #[true, true, true, true, true, true, true, true, true, false] rfl rfl rfl rfl (by kernel_rfl) rfl ⟨[0, 1], by decide, rfl⟩ (qt_rd (rd_loadAgg Try.underlying71 rfl ty_71 rfl (by first | exact cs_blk 0 (off := 0) (k := 2) rfl rfl | exact cs_blk 1 (off := 0) (k := 2) rfl rfl | exact cs_old (by assumption) (by simp)) rfl)) ?_
        refine ga_only 9 #[true, true, true, true, true, true, true, true, true, true] rfl rfl (by kernel_rfl) rfl (.inr ⟨[0, 1], by decide, rfl⟩) (op_mapInsertV 2 hkv Try.underlying86 Try.underlying2 rfl rfl rfl rfl (by rw [lkv_look, hlk]; rfl) (by first | rfl | (simp only [List.set_cons_succ, List.set_cons_zero]; exact rfl)) ?_)
        refine ga_end (by kernel_rfl) (.inl (by kernel_rfl)) ?_
        refine gx_then ?_
        refine gc_seq ?_
        refine gc_region ?_
        refine gl_op (op_rd rfl (rd_loadAgg Try.underlying71 rfl ty_71 rfl (by first | exact cs_blk 0 (off := 0) (k := 2) rfl rfl | exact cs_blk 1 (off := 0) (k := 2) rfl rfl | exact cs_old (by assumption) (by simp)) rfl) ?_)
        first | refine gl_op (op_storeAgg 0 ty_71 rfl rfl rfl rfl rfl rfl (by first | rfl | (simp only [List.set_cons_succ, List.set_cons_zero]; exact rfl)) ?_) | refine gl_op (op_storeAgg 1 ty_71 rfl rfl rfl rfl rfl rfl (by first | rfl | (simp only [List.set_cons_succ, List.set_cons_zero]; exact rfl)) ?_)
        refine gl_nil ?_
        refine gx_then ?_
        refine gc_ret ?_
        refine gx_retV1S (.inl rfl) Try.results34 (rv_agg Try.underlying71 rfl ty_71 rfl (by rfl) (cs_blk 1 (off := 0) (k := 2) rfl rfl)) (sub_tail (A := [_]) (B := [_, _, _]) (T := (T3.map Ca.hl)) [2] 3 (by decide) (by decide) rfl rfl) ?_
        have hXe : X = srcW l w (f1 + 1) i mask := by rw [hX, show k = l.length by omega]; rfl
        refine ⟨by rw [hXe]; rfl, ⟨cb1, es ++ [⟨natV mask, wv X, nb⟩], nb + 1, m ++ [(mask, X)]⟩ :: T3, rfl, ?_, by omega, ⟨kvW_snoc hkv mask X nb, fun p hp => ?_⟩, hc3⟩
        · rw [← hb, List.map_cons, List.map_cons, hb3, hb1]
        · rw [show w.length - i = f1 + 1 by omega]
          rcases List.mem_append.1 hp with h | h
          · exact hval p h
          · obtain rfl := List.mem_singleton.1 h
            exact hXe

end Go.Proofs.Yteiopfefmphhaaa

set_option autoImplicit false
set_option linter.unusedVariables false
namespace Go.Proofs.Yteiopfefmphhaaa
open Go.Gv
open Go.RowKit
namespace Iv
theorem sub_move {A B T : List HL} {x : HL} (idx : List Nat) (j m : Nat) (hi : (idx ++ [j]).Nodup) (hlt : ∀ i ∈ idx ++ [j], i < m) (hm : B.length = m) (hA : A = pick idx B) (hx : B[j]? = some x) : Sub (A ++ (T ++ [x])) (B ++ T) := by
  subst hm
  refine ⟨idx ++ ((List.range T.length).map (· + B.length) ++ [j]), ?_, ?_⟩
  · have h1 := List.nodup_append.1 hi
    rw [List.nodup_append]
    refine ⟨h1.1, ?_, fun a ha b hb e => ?_⟩
    · rw [List.nodup_append]
      refine ⟨List.Pairwise.map _ (fun a b hab => by omega) List.nodup_range, by simp, fun a ha b hb e => ?_⟩
      obtain ⟨q, _, rfl⟩ := List.mem_map.1 ha
      have := hlt j (by simp)
      rw [List.mem_singleton] at hb
      omega
    · rcases List.mem_append.1 hb with h | h
      · obtain ⟨q, _, rfl⟩ := List.mem_map.1 h
        have := hlt a (List.mem_append.2 (.inl ha))
        omega
      · exact h1.2.2 a ha b h e
  · subst hA
    unfold pick
    rw [List.filterMap_append, List.filterMap_append]
    congr 1
    · refine filterMap_ext fun i hi2 => ?_
      rw [List.getElem?_append_left (hlt i (List.mem_append.2 (.inl hi2)))]
    · congr 1
      · rw [List.filterMap_map]
        have h2 : ((fun i => (B ++ T)[i]?) ∘ (· + B.length)) = fun i => T[i]? := funext fun i => by
          simp [List.getElem?_append_right (show B.length ≤ i + B.length by omega)]
        rw [h2, filterMap_range_get]
      · rw [List.filterMap_cons, List.getElem?_append_left (hlt j (by simp)), hx]; rfl
theorem sub_nil (X : List HL) : Sub X (X ++ []) := by rw [List.append_nil]; exact Sub.refl' X
theorem mapHl_snoc (T : List Ca) (c : Ca) : (T ++ [c]).map Ca.hl = T.map Ca.hl ++ [c.hl] := by simp
theorem cas_init {l : List Pipe} {w : List Wish} : ∀ {T : List Ca} {i : Nat}, i + T.length = w.length → (∀ c ∈ T, c.es = [] ∧ c.m = []) → CasOk l w i T
  | [], i, h, _ => h
  | c :: T, i, h, hc => by
    simp only [List.length_cons] at h
    have h1 := hc c (by simp)
    exact ⟨by omega, ⟨by rw [h1.1, h1.2]; exact KV.nil, by rw [h1.2]; simp⟩, cas_init (by omega) fun c hx => hc c (List.mem_cons_of_mem _ hx)⟩
theorem cas_drop {l : List Pipe} {w : List Wish} : ∀ (k : Nat) {i : Nat} {T : List Ca}, CasOk l w i T → k ≤ T.length → CasOk l w (i + k) (T.drop k)
  | 0, i, T, h, _ => h
  | k + 1, i, [], h, hk => by simp at hk
  | k + 1, i, c :: T, h, hk => by
    have := cas_drop k h.2.2 (by simpa using hk)
    rwa [show i + 1 + k = i + (k + 1) by omega] at this
theorem cas_join {l : List Pipe} {w : List Wish} : ∀ (k : Nat) {i : Nat} {T T' : List Ca}, CasOk l w i T → k ≤ T.length → CasOk l w (i + k) T' → CasOk l w i (T.take k ++ T')
  | 0, i, T, T', h, _, h' => h'
  | k + 1, i, [], T', h, hk, _ => by simp at hk
  | k + 1, i, c :: T, T', h, hk, h' => ⟨h.1, h.2.1, cas_join k h.2.2 (by simpa using hk) (by rwa [show i + 1 + k = i + (k + 1) by omega])⟩
theorem sbest_all {l : List Pipe} {w : List Wish} (hd : Dat l w) (bs : List Nat) (s : Addr) (a b kr : Option Addr) (ca cb kc : Nat) (i mask : Nat) (T : List Ca) (w0 : World) (hi : i ≤ w.length) (hb : T.map Ca.b = bs) (hc : CasOk l w 0 T) (hown : Own w0 ((T.map Ca.hl).filterMap HL.block) w0 (T.map Ca.hl)) (hm : mask < 2 ^ 40) (hsc : Cells w0 s [.slice a l.length ca, .slice b w.length cb, .slice kr w.length kc]) (hso : s.block ∉ (T.map Ca.hl).filterMap HL.block) (hl : OldSl w0 ((T.map Ca.hl).filterMap HL.block) a l.length 3 (l.flatMap Pipe.cells)) (hw : OldSl w0 ((T.map Ca.hl).filterMap HL.block) b w.length 5 (w.flatMap Wish.cells)) (hk : OldSl w0 ((T.map Ca.hl).filterMap HL.block) kr w.length 1 (bs.map mapV)) :
    Sp Try.prog 34 [.pointer (some s), natV i, natV mask] w0 ((T.map Ca.hl).filterMap HL.block) (fun v L => v = wv (srcW l w (w.length - i) i mask) ∧ ∃ T', L = T'.map Ca.hl ∧ T'.map Ca.b = bs ∧ CasOk l w 0 T') := by
  have hTl : T.length = w.length := by have := cas_len hc; omega
  have hsplit : T.map Ca.hl = (T.take i).map Ca.hl ++ (T.drop i).map Ca.hl := by rw [← List.map_append, List.take_append_drop]
  have hsub : ∀ z ∈ (T.drop i).map Ca.b, z ∈ (T.map Ca.hl).filterMap HL.block := fun z hz => by
    rw [blk_cas]
    obtain ⟨c, hc1, rfl⟩ := List.mem_map.1 hz
    exact List.mem_map.2 ⟨c, List.mem_of_mem_drop hc1, rfl⟩
  have h := sp_frame (P := Try.prog) (f := 34) (args := [.pointer (some s), natV i, natV mask]) (w0 := w0) (A := (T.take i).map Ca.hl) (B := (T.drop i).map Ca.hl) (Sc := (T.drop i).map Ca.b) (by rw [← hsplit]; exact hown) (blk_cas _).symm
    (fun ho => sbest_ok hd bs s a b kr ca cb kc (by rw [← hb]; simp [hTl]) (w.length - i) i mask (T.drop i) w0 (by omega) (by rw [← hb, List.map_drop]) (by have := cas_drop i hc (by omega); rwa [Nat.zero_add] at this) ho hm hsc (fun hx => hso (hsub _ hx)) (hl.atSub hown hsub) (hw.atSub hown hsub) (hk.atSub hown hsub))
  refine h.mono ?_
  rintro v L ⟨B', ⟨rfl, T', rfl, h1, h2⟩, rfl⟩
  refine ⟨rfl, T.take i ++ T', by rw [List.map_append], ?_, ?_⟩
  · rw [List.map_append, h1, ← hb, ← List.map_drop, ← List.map_append, List.take_append_drop]
  · exact cas_join i hc (by omega) (by rwa [Nat.zero_add])
section
variable (l : List Pipe)
def okW (x : Wish) (g : Nat → Wth) (m : Nat) (r : Wth) (k : Nat) : Bool := !offW (l.getD k default) x m k && decide (tryW (l.getD k default) x (g (m ||| 1 <<< k)) = r)
def scanStep (x : Wish) (g : Nat → Wth) (m : Nat) (r : Wth) (s : Int × Wth) (k : Nat) : Int × Wth := if 0 ≤ s.1 then s else if okW l x g m r k then ((k : Int), g (m ||| 1 <<< k)) else s
def scanW (x : Wish) (g : Nat → Wth) (m : Nat) (r : Wth) (n : Nat) : Int × Wth := (List.range n).foldl (scanStep l x g m r) (-1, r)
end
theorem scan_succ (l : List Pipe) (x : Wish) (g : Nat → Wth) (m : Nat) (r : Wth) (n : Nat) : scanW l x g m r (n + 1) = scanStep l x g m r (scanW l x g m r n) n := by
  unfold scanW; rw [List.range_succ, List.foldl_append]; rfl
theorem scan_stay {l : List Pipe} {x : Wish} {g : Nat → Wth} {m : Nat} {r : Wth} {n : Nat} (h : 0 ≤ (scanW l x g m r n).1) : ∀ k, scanW l x g m r (n + k) = scanW l x g m r n
  | 0 => rfl
  | k + 1 => by
    rw [show n + (k + 1) = n + k + 1 by omega, scan_succ, scan_stay h k]
    unfold scanStep
    rw [if_pos h]
theorem scan_neg {l : List Pipe} {x : Wish} {g : Nat → Wth} {m : Nat} {r : Wth} : ∀ n, (scanW l x g m r n).1 < 0 → (scanW l x g m r n).2 = r
  | 0, _ => rfl
  | n + 1, h => by
    rw [scan_succ] at h ⊢
    unfold scanStep at h ⊢
    split
    · rename_i h1; rw [if_pos h1] at h; omega
    · rename_i h1
      rw [if_neg h1] at h
      split
      · rename_i h2; rw [if_pos h2] at h; simp only at h; omega
      · exact scan_neg n (by omega)
def takeW (m : Nat) (c : Int) : Nat := if 0 ≤ c then m ||| 1 <<< c.toNat else m
def refW (l : List Pipe) (w : List Wish) : Nat → Nat → Nat → Wth → List Int
  | 0, _, _, _ => []
  | f + 1, i, m, r => (scanW l (w.getD i default) (srcW l w f (i + 1)) m r l.length).1 :: refW l w f (i + 1) (takeW m (scanW l (w.getD i default) (srcW l w f (i + 1)) m r l.length).1) (scanW l (w.getD i default) (srcW l w f (i + 1)) m r l.length).2
theorem refW_succ (l : List Pipe) (w : List Wish) (f i m : Nat) (r : Wth) : refW l w (f + 1) i m r = (scanW l (w.getD i default) (srcW l w f (i + 1)) m r l.length).1 :: refW l w f (i + 1) (takeW m (scanW l (w.getD i default) (srcW l w f (i + 1)) m r l.length).1) (scanW l (w.getD i default) (srcW l w f (i + 1)) m r l.length).2 := rfl
def rbestF (l : List Pipe) (w : List Wish) : List Int × Int := if checkP l w = 0 then (refW l w w.length 0 0 (srcW l w w.length 0 0), (srcW l w w.length 0 0).2) else ([], 0)
end Iv
end Go.Proofs.Yteiopfefmphhaaa

set_option autoImplicit false
set_option linter.unusedVariables false
namespace Go.Proofs.Yteiopfefmphhaaa
open Go.Gv
open Go.RowKit
open Iv
set_option maxRecDepth 100000 in
set_option maxHeartbeats 1000000 in
theorem begin_ok (l : List Pipe) (w : List Wish) (a b : Option Addr) (ca cb : Nat) (w0 : World) (hlb : l.length ≤ 140737488355328) (hwb : w.length ≤ 1000000000000) : Sp Try.prog 33 [.slice a l.length ca, .slice b w.length cb] w0 [] (fun v L => ∃ (bb : Nat) (r : Option Nat) (cp : Nat) (T : List Ca), v = .pointer (some ⟨bb, 0, none⟩) ∧ T.length = w.length ∧ CasOk l w 0 T ∧ L = .blk bb [.slice a l.length ca, .slice b w.length cb, .slice (rowA r) w.length cp] 85 :: .row 86 1 r w.length cp ((T.map Ca.b).map mapV) :: T.map Ca.hl) := by
  refine spec_enter Try.func33 rfl Try.ntmps33 rfl (Own.refl _) ?_
  simp only [argEnv]
  refine gc_seq ?_
  refine gc_region ?_
  refine gl_op (op_rd rfl (rd_assign rfl) ?_)
  refine gl_nil ?_
  refine gx_then ?_
  refine gc_seq ?_
  refine gc_region ?_
  refine gl_op (op_rd rfl (rd_move rfl) ?_)
  refine gl_op (op_rd rfl (rd_move rfl) ?_)
  refine gl_op (op_rd rfl (rd_build rfl (fun _ => bd_85_0_1 _ _ _ _ _ _)) ?_)
  refine gl_op (op_box rfl rfl rfl (fun b10 => ?_))
  refine gl_op (op_rd rfl (rd_assign rfl) ?_)
  refine gl_nil ?_
  refine gx_then ?_
  refine gc_seq ?_
  refine gc_seq ?_
  refine gc_region ?_
  refine gl_op (op_rd rfl (rd_assign rfl) ?_)
  refine gl_nil ?_
  refine gx_then ?_
  refine gc_block ?_
  refine gk_nil 86 1 ?_
  refine gc_loopF (ι := Nat × List Ca × Option Nat × Nat) [(1, _), (5, _)] [] (fun j => j.1 ≤ w.length ∧ j.2.1.length = j.1 ∧ ∀ c ∈ j.2.1, c.es = [] ∧ c.m = []) (fun j Fr0 => ((6, natV j.1) :: Fr0)) (fun j Fr0 => (.blk b10 [.slice a l.length ca, .slice b w.length cb, .slice (rowA j.2.2.1) j.2.1.length j.2.2.2] 85 :: .row 86 1 j.2.2.1 j.2.1.length j.2.2.2 ((j.2.1.map Ca.b).map mapV) :: (Fr0 ++ j.2.1.map Ca.hl))) (fun j => w.length - j.1) (0, [], none, 0) (⟨Nat.zero_le _, rfl, by simp⟩) ⟨rfl, rfl, rfl, trivial⟩ ⟨[1, 0], by decide, rfl⟩ ?_
  rintro ⟨i, T, r5, c5⟩ ⟨hi, hT, hce⟩
  simp only at hi hT hce ⊢
  refine gc_seq ?_
  refine gc_seq ?_
  refine gc_region ?_
  refine gl_op (op_rd rfl (rd_move rfl) ?_)
  refine gl_op (op_rd rfl (rd_move rfl) ?_)
  refine gl_op (op_rd rfl (rd_lenSlice Try.underlying23 rfl) ?_)
  refine gl_op (op_rd rfl (rd_lss rfl rfl) (gk_dec (fun hlt => ?_) (fun hlt => ?_)))
  · skip
    refine gl_nil ?_
    refine gx_then ?_
    refine gc_cond_t rfl ?_
    refine gc_skip ?_
    refine gx_then ?_
    refine gc_seq ?_
    refine gc_block ?_
    refine gc_region ?_
    refine gl_op (op_rd rfl (rd_move rfl) ?_)
    refine gl_op (op_rd rfl (rd_move rfl) ?_)
    refine gl_op (op_rd rfl (rd_nilCheck rfl) ?_)
    refine gl_op (op_rd rfl (rd_fieldAddr rfl (fa_85_2 _)) ?_)
    refine gl_op (op_rd rfl (rd_load Try.underlying83 rfl rfl (by first | exact ld_blk 0 rfl rfl | exact ld_old (by assumption) (by simp) | exact ld_cells (by assumption) (by simp) rfl)) ?_)
    refine gl_op (op_makeMapV rfl (fun b22 => ?_))
    refine gl_op (op_buildSlice (sz := 1) rfl rfl (fun _ => bs_83_1_0 _) rfl rfl (fun b23 => ?_))
    refine gl_op (op_appendRow 3 0 Try.underlying83 ty_86 rfl (by decide) rfl rfl rfl rfl rfl (by simp [Value.oneCell']) (by omega) (by omega) (fun _ => (by first | rfl | (simp only [List.set_cons_succ, List.set_cons_zero]; exact rfl))) (fun r24 c24 => ?_))
    refine gl_op (op_rd rfl (rd_nilCheck rfl) ?_)
    refine gl_op (op_rd rfl (rd_fieldAddr rfl (fa_85_2 _)) ?_)
    first | refine gl_op (op_store 2 ty_83 rfl rfl rfl rfl rfl (by first | rfl | (simp only [List.set_cons_succ, List.set_cons_zero]; exact rfl)) (by first | rfl | (simp only [List.set_cons_succ, List.set_cons_zero]; exact rfl)) ?_) | refine gl_op (op_storeRow 0 ty_83 rfl rfl rfl rfl (by simp; omega) (by first | rfl | (simp only [List.set_cons_succ, List.set_cons_zero]; exact rfl)) ?_) | refine gl_op (op_storeRow 3 ty_83 rfl rfl rfl rfl (by simp; omega) (by first | rfl | (simp only [List.set_cons_succ, List.set_cons_zero]; exact rfl)) ?_)
    refine gl_nil ?_
    refine gx_block ?_
    refine gx_then ?_
    rw [show (T.map Ca.b).map mapV ++ [Value.map (some b22)] = ((T ++ [(⟨b22, [], 0, []⟩ : Ca)]).map Ca.b).map mapV by simp, snoc_len T (⟨b22, [], 0, []⟩ : Ca)]
    refine gc_region ?_
    refine gl_op (op_rd rfl (rd_move rfl) ?_)
    refine gl_op (op_rd rfl (by first | exact rd_addN (b := 1) rfl rfl (by omega) | exact rd_add rfl rfl (by omega) (by omega)) ?_)
    refine gl_op (op_rd rfl (rd_assign rfl) ?_)
    refine gl_nil ?_
    refine gx_then ?_
    exact gx_cut ((i + 1, T ++ [⟨b22, [], 0, []⟩], r24, c24)) ⟨⟨by simp only; omega, by simp [hT], fun c hc => by rcases List.mem_append.1 hc with h | h; exact hce c h; rw [List.mem_singleton] at h; subst h; exact ⟨rfl, rfl⟩⟩, by simp only; omega⟩ ⟨rfl, rfl, rfl, trivial⟩ (by simp only [mapHl_snoc]; exact (sub_move (A := [_, _]) (B := [_, _, _, _]) (T := T.map Ca.hl) [2, 3] 1 4 (by decide) (by decide) rfl rfl rfl))
  · skip
    refine gl_nil ?_
    refine gx_then ?_
    refine gc_cond_f rfl ?_
    refine gc_exit ?_
    refine gx_then_exit ?_
    refine gx_then_exit ?_
    refine gx_block_exit ?_
    refine gx_then ?_
    refine gc_seq ?_
    refine gc_region ?_
    refine gl_op (op_rd rfl (rd_move rfl) ?_)
    refine gl_op (op_rd rfl (rd_assign rfl) ?_)
    refine gl_nil ?_
    refine gx_then ?_
    refine gc_ret ?_
    refine gx_ret1S (.inl rfl) Try.results33 rfl (sub_tail (A := [_, _]) (B := [_, _]) (T := (T.map Ca.hl)) [0, 1] 2 (by decide) (by decide) rfl rfl) ?_
    have hTw : T.length = w.length := by omega
    exact ⟨b10, r5, c5, T, rfl, hTw, cas_init (by omega) hce, by rw [hTw]; rfl⟩

set_option maxRecDepth 100000 in
set_option maxHeartbeats 4000000 in
theorem rBest_ok (l : List Pipe) (w : List Wish) (a b : Option Addr) (ca cb : Nat) (w0 : World) (hl : OldSl w0 [] a l.length 3 (l.flatMap Pipe.cells)) (hw : OldSl w0 [] b w.length 5 (w.flatMap Wish.cells)) (hlb : l.length ≤ 140737488355328) (hwb : w.length ≤ 140737488355328) (res : List Int) (cst : Int) (hres : rbestF l w = (res, cst)) : Sp Try.prog 15 [.slice a l.length ca, .slice b w.length cb] w0 [] (fun v L => ∃ (r : Option Nat) (cp : Nat), v = .tuple #[.slice (rowA r) res.length cp, .int .i64 cst, .int .i64 (checkP l w)] ∧ L = [.row 3 1 r res.length cp (res.map intV)]) := by
  refine spec_enter Try.func15 rfl Try.ntmps15 rfl (Own.refl _) ?_
  simp only [argEnv]
  refine gc_seq ?_
  refine gc_region ?_
  refine gl_op (op_rd rfl (rd_assign rfl) ?_)
  refine gl_op (op_rd rfl (rd_assign rfl) ?_)
  refine gl_op (op_rd rfl (rd_assign rfl) ?_)
  refine gl_nil ?_
  refine gx_then ?_
  refine gc_seq ?_
  refine gc_region ?_
  refine gl_op (op_rd rfl (rd_move rfl) ?_)
  refine gl_op (op_rd rfl (rd_move rfl) ?_)
  refine gl_op (op_call rfl (vf := []) (vc := []) rfl rfl Try.call12 (fun w1 ho => rCheck_ok l w a b ca cb w1 (hl.at ho) (hw.at ho) hlb hwb) ?_)
  rintro _ _ ⟨rfl, rfl⟩
  refine gl_op (op_rd rfl (rd_assign rfl) ?_)
  refine gl_nil ?_
  refine gx_then ?_
  refine gc_seq ?_
  refine gc_seq ?_
  refine gc_region ?_
  refine gl_op (op_rd rfl (rd_move rfl) ?_)
  refine gl_op (op_rd rfl (rd_neq rfl rfl) (gk_dec (fun h22 => ?_) (fun h22 => ?_)))
  · skip
    have hck : checkP l w ≠ 0 := by omega
    refine gl_nil ?_
    refine gx_then ?_
    refine gc_cond_t rfl ?_
    refine gc_seq ?_
    refine gk_nil 3 1 ?_
    refine gc_region ?_
    refine gl_op (op_rd rfl (rd_move rfl) ?_)
    refine gl_op (op_rd rfl (rd_assign rfl) ?_)
    refine gl_op (op_rd rfl (rd_assign rfl) ?_)
    refine gl_op (op_rd rfl (rd_assign rfl) ?_)
    refine gl_nil ?_
    refine gx_then ?_
    refine gc_ret ?_
    refine gx_then_ret ?_
    refine gx_ret3 (.inl rfl) Try.results15 rfl rfl rfl [0] (by decide) ?_
    rw [rbestF, if_neg hck] at hres
    cases hres
    exact ⟨none, 0, rfl, rfl⟩
  · skip
    have hck : checkP l w = 0 := by omega
    have hd := checkP_ok hck
    have hln := hd.ln
    have hwn := hd.wn
    rw [rbestF, if_pos hck] at hres
    obtain ⟨hres1, hres2⟩ := Prod.mk.inj hres
    rw [hck]
    refine gl_nil ?_
    refine gx_then ?_
    refine gc_cond_f rfl ?_
    refine gc_skip ?_
    refine gx_then ?_
    refine gc_seq ?_
    refine gc_region ?_
    refine gl_op (op_rd rfl (rd_move rfl) ?_)
    refine gl_op (op_rd rfl (rd_move rfl) ?_)
    refine gl_op (op_call rfl (vf := []) (vc := []) rfl rfl Try.call33 (fun w1 ho => begin_ok l w a b ca cb w1 hlb (by omega)) ?_)
    rintro _ _ ⟨bb, rk, ck, T0, rfl, hT0, hc0, rfl⟩
    refine gk_sub (sub_nil _) ?_
    refine gl_op (op_rd rfl (rd_assign rfl) ?_)
    refine gl_nil ?_
    refine gx_then ?_
    refine gc_seq ?_
    refine gc_region ?_
    refine gl_op (op_rd rfl (rd_move rfl) ?_)
    refine gl_op (op_callT [_, _] (T0.map Ca.hl) rfl rfl (vf := []) (vc := []) rfl rfl Try.call34 (Sc := (T0.map Ca.hl).filterMap HL.block) rfl (fun wz ho hcc => sbest_all hd (T0.map Ca.b) ⟨bb, 0, none⟩ a b (rowA rk) ca cb ck (0) 0 T0 wz (by omega) rfl hc0 hcc (by decide) (ho.blkCells 0 rfl) (ho.blkOutT 0 rfl) (hl.atTail ho (by decide)) (hw.atTail ho (by decide)) (ho.rowSlT 1 rfl)) ?_)
    rintro _ _ ⟨rfl, T1, rfl, hb1, hc1⟩
    rw [Nat.sub_zero]
    refine gl_op (op_alloc ty_71 rfl rfl (fun b9 => ?_))
    first | refine gl_op (op_storeAgg 0 ty_71 rfl rfl rfl rfl rfl rfl (by first | rfl | (simp only [List.set_cons_succ, List.set_cons_zero]; exact rfl)) ?_) | refine gl_op (op_storeAgg 1 ty_71 rfl rfl rfl rfl rfl rfl (by first | rfl | (simp only [List.set_cons_succ, List.set_cons_zero]; exact rfl)) ?_) | refine gl_op (op_storeRowAgg 2 ty_71 rfl rfl rfl rfl rfl (by simp; omega) (by first | rfl | (simp only [List.set_cons_succ, List.set_cons_zero]; exact rfl)) ?_)
    refine gl_nil ?_
    refine gx_then ?_
    refine gc_seq ?_
    refine gc_region ?_
    refine gl_op (op_rd rfl (rd_assign rfl) ?_)
    refine gl_nil ?_
    refine gx_then ?_
    refine gc_seq ?_
    refine gc_drawP [0, 1, 2] false 3 rfl ?_
    refine ga_first 0 #[true, false, false, false] rfl rfl rfl rfl (by kernel_rfl) rfl ⟨[0, 1, 2], by decide, rfl⟩ (qt_rd (rd_loadAgg Try.underlying71 rfl ty_71 rfl (by first | exact cs_blk 0 (off := 0) (k := 2) rfl rfl | exact cs_blk 1 (off := 0) (k := 2) rfl rfl | exact cs_old (by assumption) (by simp)) rfl)) ?_
    refine ga_only 1 #[true, true, false, false] rfl rfl (by kernel_rfl) rfl (.inr ⟨[0, 1, 2], by decide, rfl⟩) (op_alloc ty_71 rfl rfl (fun b12 => ?_))
    refine ga_first 2 #[true, true, true, false] rfl rfl rfl rfl (by kernel_rfl) rfl ⟨[1, 2, 3], by decide, rfl⟩ (qt_rd (rd_assign rfl)) ?_
    first | refine ga_only 3 #[true, true, true, true] rfl rfl (by kernel_rfl) rfl (.inr ⟨[1, 2, 3], by decide, rfl⟩) (op_storeAgg 0 ty_71 rfl rfl rfl rfl rfl rfl (by first | rfl | (simp only [List.set_cons_succ, List.set_cons_zero]; exact rfl)) ?_) | refine ga_only 3 #[true, true, true, true] rfl rfl (by kernel_rfl) rfl (.inr ⟨[1, 2, 3], by decide, rfl⟩) (op_storeAgg 1 ty_71 rfl rfl rfl rfl rfl rfl (by first | rfl | (simp only [List.set_cons_succ, List.set_cons_zero]; exact rfl)) ?_) | refine ga_only 3 #[true, true, true, true] rfl rfl (by kernel_rfl) rfl (.inr ⟨[1, 2, 3], by decide, rfl⟩) (op_storeAgg 2 ty_71 rfl rfl rfl rfl rfl rfl (by first | rfl | (simp only [List.set_cons_succ, List.set_cons_zero]; exact rfl)) ?_) | refine ga_only 3 #[true, true, true, true] rfl rfl (by kernel_rfl) rfl (.inr ⟨[1, 2, 3], by decide, rfl⟩) (op_storeRowAgg 3 ty_71 rfl rfl rfl rfl rfl (by simp; omega) (by first | rfl | (simp only [List.set_cons_succ, List.set_cons_zero]; exact rfl)) ?_)
    refine ga_end (by kernel_rfl) (.inl (by kernel_rfl)) ?_
    refine gx_then ?_
    refine gc_seq ?_
    refine gc_seq ?_
    refine gc_region ?_
    refine gl_op (op_rd rfl (rd_assign rfl) ?_)
    refine gl_nil ?_
    refine gx_then ?_
    refine gc_block ?_
    refine gk_nil 3 1 ?_
    refine gc_loopF (ι := Nat × List Int × Nat × Wth × Option Nat × Nat × List Ca) [(0, _), (1, _), (8, _), (9, _), (12, _)] [_, _, _] (fun j => j.1 ≤ w.length ∧ j.2.1 ++ refW l w (w.length - j.1) j.1 j.2.2.1 j.2.2.2.1 = res ∧ j.2.2.1 < 2 ^ 40 ∧ j.2.1.length = j.1 ∧ j.2.2.2.2.2.2.map Ca.b = T0.map Ca.b ∧ CasOk l w 0 j.2.2.2.2.2.2) (fun j Fr0 => ((13, natV j.1) :: (11, natV j.2.2.1) :: (10, .slice (rowA j.2.2.2.2.1) j.2.1.length j.2.2.2.2.2.1) :: Fr0)) (fun j Fr0 => (.row 3 1 j.2.2.2.2.1 j.2.1.length j.2.2.2.2.2.1 (j.2.1.map intV) :: .blk b12 [.int .i64 j.2.2.2.1.1, .int .i64 j.2.2.2.1.2] 71 :: (Fr0 ++ j.2.2.2.2.2.2.map Ca.hl))) (fun j => w.length - j.1) (0, [], 0, srcW l w w.length 0 0, none, 0, T1) (⟨Nat.zero_le _, hres1, Nat.two_pow_pos 40, rfl, hb1, hc1⟩) ⟨rfl, rfl, rfl, rfl, rfl, rfl, rfl, rfl, trivial⟩ (sub_tail (A := [_, _, _, _, _]) (B := [_, _, _, _, _]) (T := (T1.map Ca.hl)) [0, 1, 2, 3, 4] 5 (by decide) (by decide) rfl rfl) ?_
    rintro ⟨i, out, m, r, r10, c10, T2⟩ ⟨hi, hout, hm, hol, hb2, hc2⟩
    simp only at hi hout hm hol hb2 hc2 ⊢
    refine gc_seq ?_
    refine gc_seq ?_
    refine gc_region ?_
    refine gl_op (op_rd rfl (rd_move rfl) ?_)
    refine gl_op (op_rd rfl (rd_move rfl) ?_)
    refine gl_op (op_rd rfl (rd_lenSlice Try.underlying23 rfl) ?_)
    refine gl_op (op_rd rfl (rd_lss rfl rfl) (gk_dec (fun hlt => ?_) (fun hlt => ?_)))
    · skip
      obtain ⟨x, hx⟩ := get_some (show i < w.length by omega)
      have hxd : w.getD i default = x := getD_some hx
      have hxo := hd.w x (List.mem_of_getElem? hx)
      obtain ⟨f1, hf1⟩ : ∃ f1, w.length - i = f1 + 1 := ⟨w.length - i - 1, by omega⟩
      rw [hf1, refW_succ, hxd] at hout
      refine gl_nil ?_
      refine gx_then ?_
      refine gc_cond_t rfl ?_
      refine gc_skip ?_
      refine gx_then ?_
      refine gc_seq ?_
      refine gc_block ?_
      refine gc_seq ?_
      refine gc_region ?_
      refine gl_op (op_rd rfl (rd_assign rfl) ?_)
      refine gl_nil ?_
      refine gx_then ?_
      refine gc_seq ?_
      refine gc_seq ?_
      refine gc_region ?_
      refine gl_op (op_rd rfl (rd_assign rfl) ?_)
      refine gl_nil ?_
      refine gx_then ?_
      refine gc_block ?_
      refine gc_loopF (ι := Nat × Int × Wth × List Ca) [(0, _), (1, _), (8, _), (9, _), (10, _), (11, _), (12, _), (13, _)] [_, _, _, _] (fun j => j.1 ≤ l.length ∧ (j.2.1, j.2.2.1) = scanW l x (srcW l w f1 (i + 1)) m r j.1 ∧ -1 ≤ j.2.1 ∧ j.2.1 < j.1 ∧ j.2.2.2.map Ca.b = T0.map Ca.b ∧ CasOk l w 0 j.2.2.2) (fun j Fr0 => ((15, natV j.1) :: (14, .int .i64 j.2.1) :: Fr0)) (fun j Fr0 => (.blk b12 [.int .i64 j.2.2.1.1, .int .i64 j.2.2.1.2] 71 :: (Fr0 ++ j.2.2.2.map Ca.hl))) (fun j => l.length - j.1) (0, -1, r, T2) (⟨Nat.zero_le _, rfl, Int.le_refl _, by simp, hb2, hc2⟩) ⟨rfl, rfl, rfl, rfl, rfl, rfl, rfl, rfl, rfl, rfl, trivial⟩ (sub_tail (A := [_, _, _, _, _]) (B := [_, _, _, _, _]) (T := (T2.map Ca.hl)) [1, 0, 2, 3, 4] 5 (by decide) (by decide) rfl rfl) ?_
      rintro ⟨k, ch, rr, T3⟩ ⟨hk, hsc, hch, hck1, hb3, hc3⟩
      simp only at hk hsc hch hck1 hb3 hc3 ⊢
      refine gc_seq ?_
      refine gc_seq ?_
      refine gc_region ?_
      refine gl_op (op_rd rfl (rd_move rfl) ?_)
      refine gl_op (op_rd rfl (rd_move rfl) ?_)
      refine gl_op (op_rd rfl (rd_lenSlice Try.underlying22 rfl) ?_)
      refine gl_op (op_rd rfl (rd_lss rfl rfl) (gk_dec (fun h39 => ?_) (fun h39 => ?_)))
      · skip
        refine gl_op (op_rd rfl (rd_move rfl) ?_)
        refine gl_yes rfl rfl (op_rd rfl (rd_move rfl) ?_)
        refine gl_yes rfl rfl (op_rd rfl (rd_lss rfl rfl) (gk_dec (fun h42 => ?_) (fun h42 => ?_)))
        · skip
          have hrr : rr = r := by
            have := scan_neg (l := l) (x := x) (g := srcW l w f1 (i + 1)) (m := m) (r := r) k (by rw [← hsc]; exact h42)
            rwa [← hsc] at this
          rw [hrr] at hsc ⊢
          obtain ⟨p, hp⟩ := get_some (show k < l.length by omega)
          have hpd : l.getD k default = p := getD_some hp
          have hpo := hd.p p (List.mem_of_getElem? hp)
          refine gl_op (op_rd rfl (rd_pick_t rfl rfl) ?_)
          refine gl_nil ?_
          refine gx_then ?_
          refine gc_cond_t rfl ?_
          refine gc_skip ?_
          refine gx_then ?_
          refine gc_seq ?_
          refine gc_block ?_
          refine gc_seq ?_
          refine gc_drawP [0, 1, 2, 3, 4] true 9 rfl ?_
          refine ga_first 0 #[true, false, false, false, false, false, false, false, false, false] rfl rfl rfl rfl (by kernel_rfl) rfl ⟨[0, 1, 2, 3, 4], by decide, rfl⟩ (qt_rd (rd_move rfl)) ?_
          refine ga_first 1 #[true, true, false, false, false, false, false, false, false, false] rfl rfl rfl rfl (by kernel_rfl) rfl ⟨[0, 1, 2, 3, 4], by decide, rfl⟩ (qt_rd (rd_move rfl)) ?_
          refine ga_first 2 #[true, true, true, false, false, false, false, false, false, false] rfl rfl rfl rfl (by kernel_rfl) rfl ⟨[0, 1, 2, 3, 4], by decide, rfl⟩ (qt_rd (rd_indexOld hl Try.underlying22 ty_25 rfl rfl (by omega) (by omega))) ?_
          refine ga_first 3 #[true, true, true, true, false, false, false, false, false, false] rfl rfl rfl rfl (by kernel_rfl) rfl ⟨[0, 1, 2, 3, 4], by decide, rfl⟩ (qt_rd (rd_loadAgg Try.underlying25 rfl ty_25 rfl (cs_slN hl (flat_drop_get Pipe.cells 3 (fun _ => rfl) hp)) rfl)) ?_
          refine ga_first 4 #[true, true, true, true, true, false, false, false, false, false] rfl rfl rfl rfl (by kernel_rfl) rfl ⟨[0, 1, 2, 3, 4], by decide, rfl⟩ (qt_rd (rd_move rfl)) ?_
          refine ga_first 5 #[true, true, true, true, true, true, false, false, false, false] rfl rfl rfl rfl (by kernel_rfl) rfl ⟨[0, 1, 2, 3, 4], by decide, rfl⟩ (qt_rd (rd_move rfl)) ?_
          refine ga_first 6 #[true, true, true, true, true, true, true, false, false, false] rfl rfl rfl rfl (by kernel_rfl) rfl ⟨[0, 1, 2, 3, 4], by decide, rfl⟩ (qt_rd (rd_indexOld hw Try.underlying23 ty_29 rfl rfl (by omega) (by omega))) ?_
          refine ga_first 7 #[true, true, true, true, true, true, true, true, false, false] rfl rfl rfl rfl (by kernel_rfl) rfl ⟨[0, 1, 2, 3, 4], by decide, rfl⟩ (qt_rd (rd_loadAgg Try.underlying29 rfl ty_29 rfl (cs_slN hw (flat_drop_get Wish.cells 5 (fun _ => rfl) hx)) rfl)) ?_
          refine ga_first 8 #[true, true, true, true, true, true, true, true, true, false] rfl rfl rfl rfl (by kernel_rfl) rfl ⟨[0, 1, 2, 3, 4], by decide, rfl⟩ (qt_call (vf := []) (vc := []) rfl rfl Try.call26 (fun w1 ho => rfit_ok p x hpo hxo w1) (by rintro _ _ ⟨h, _⟩; exact h)) ?_
          refine ga_first 9 #[true, true, true, true, true, true, true, true, true, true] rfl rfl rfl rfl (by kernel_rfl) rfl ⟨[0, 1, 2, 3, 4], by decide, rfl⟩ (qt_rd (rd_assign rfl)) ?_
          refine ga_end (by kernel_rfl) (.inr ⟨[0, 1, 2, 3, 4], by decide, rfl⟩) ?_
          refine gx_then ?_
          refine gc_seq ?_
          refine gc_seq ?_
          refine gc_region ?_
          refine gl_op (op_rd rfl (rd_move rfl) ?_)
          refine gl_op (op_rd rfl (rd_lss rfl rfl) (gk_dec (fun h56 => ?_) (fun h56 => ?_)))
          · skip
            have hoff : offW p x m k = true := by unfold offW; rw [rfit_neg h56]; rfl
            refine gl_op (op_rd rfl (rd_move rfl) ?_)
            refine gl_no rfl rfl rfl ?_
            refine gl_no rfl rfl rfl ?_
            refine gl_no rfl rfl rfl ?_
            refine gl_no rfl rfl rfl ?_
            refine gl_no rfl rfl rfl ?_
            refine gl_no rfl rfl rfl ?_
            refine gl_op (op_rd rfl (rd_pick_t rfl rfl) ?_)
            refine gl_nil ?_
            refine gx_then ?_
            refine gc_cond_t rfl ?_
            refine gc_exit ?_
            refine gx_then_exit ?_
            refine gx_block_exit ?_
            refine gx_then ?_
            refine gc_region ?_
            refine gl_op (op_rd rfl (rd_move rfl) ?_)
            refine gl_op (op_rd rfl (by first | exact rd_addN (b := 1) rfl rfl (by omega) | exact rd_add rfl rfl (by omega) (by omega)) ?_)
            refine gl_op (op_rd rfl (rd_assign rfl) ?_)
            refine gl_nil ?_
            refine gx_then ?_
            exact gx_cut ((k + 1, ch, r, T3)) ⟨⟨by simp only; omega, by simp only; rw [scan_succ, ← hsc]; unfold scanStep; simp only; rw [if_neg (by omega), if_neg (by unfold okW; rw [hpd, hoff]; simp)], hch, by simp only; omega, hb3, hc3⟩, by simp only; omega⟩ ⟨rfl, rfl, rfl, rfl, rfl, rfl, rfl, rfl, rfl, rfl, trivial⟩ (sub_tail (A := [_, _, _, _, _]) (B := [_, _, _, _, _]) (T := (T3.map Ca.hl)) [0, 1, 2, 3, 4] 5 (by decide) (by decide) rfl rfl)
          · skip
            have hfit := rfit_pos h56
            have hcn := cost_nn p x
            have hcl := cost_le hpo hxo hfit
            refine gl_op (op_rd rfl (rd_move rfl) ?_)
            refine gl_yes rfl rfl (op_rd rfl (rd_move rfl) ?_)
            refine gl_yes rfl rfl (op_rd rfl (rd_move rfl) ?_)
            refine gl_yes rfl rfl (op_rd rfl (rd_conv Try.runUnderlying3 Try.runUnderlying73 rfl (wrap_u64_nat (by omega))) ?_)
            refine gl_yes rfl rfl (op_rd rfl (rd_shr rfl rfl (Nat.lt_trans hm (by decide))) ?_)
            refine gl_yes rfl rfl (op_rd rfl (rd_and (b := 1) rfl rfl (by first | exact shr_lt k hm | omega) (by first | exact shr_lt k hm | omega)) ?_)
            refine gl_yes rfl rfl (op_rd rfl (rd_eql rfl rfl) (gk_dec (fun h63 => ?_) (fun h63 => ?_)))
            · skip
              have hoff : offW p x m k = true := by unfold offW bitN; rw [decide_eq_true (show m >>> k &&& 1 = 1 by omega), Bool.or_true]
              refine gl_op (op_rd rfl (rd_pick_f rfl rfl) ?_)
              refine gl_nil ?_
              refine gx_then ?_
              refine gc_cond_t rfl ?_
              refine gc_exit ?_
              refine gx_then_exit ?_
              refine gx_block_exit ?_
              refine gx_then ?_
              refine gc_region ?_
              refine gl_op (op_rd rfl (rd_move rfl) ?_)
              refine gl_op (op_rd rfl (by first | exact rd_addN (b := 1) rfl rfl (by omega) | exact rd_add rfl rfl (by omega) (by omega)) ?_)
              refine gl_op (op_rd rfl (rd_assign rfl) ?_)
              refine gl_nil ?_
              refine gx_then ?_
              exact gx_cut ((k + 1, ch, r, T3)) ⟨⟨by simp only; omega, by simp only; rw [scan_succ, ← hsc]; unfold scanStep; simp only; rw [if_neg (by omega), if_neg (by unfold okW; rw [hpd, hoff]; simp)], hch, by simp only; omega, hb3, hc3⟩, by simp only; omega⟩ ⟨rfl, rfl, rfl, rfl, rfl, rfl, rfl, rfl, rfl, rfl, trivial⟩ (sub_tail (A := [_, _, _, _, _]) (B := [_, _, _, _, _]) (T := (T3.map Ca.hl)) [0, 1, 2, 3, 4] 5 (by decide) (by decide) rfl rfl)
            · skip
              have hoff : offW p x m k = false := by unfold offW bitN; rw [hfit, decide_eq_false (show ¬ m >>> k &&& 1 = 1 by omega)]; rfl
              rw [rfit_yes hfit]
              refine gl_op (op_rd rfl (rd_pick_f rfl rfl) ?_)
              refine gl_nil ?_
              refine gx_then ?_
              refine gc_cond_f rfl ?_
              refine gc_skip ?_
              refine gx_then ?_
              refine gc_seq ?_
              refine gc_region ?_
              refine gl_op (op_rd rfl (rd_move rfl) ?_)
              refine gl_op (op_rd rfl (rd_move rfl) ?_)
              refine gl_op (op_rd rfl (by first | exact rd_addN (b := 1) rfl rfl (by omega) | exact rd_add rfl rfl (by omega) (by omega)) ?_)
              refine gl_op (op_rd rfl (rd_move rfl) ?_)
              refine gl_op (op_rd rfl (rd_move rfl) ?_)
              refine gl_op (op_rd rfl (rd_conv Try.runUnderlying3 Try.runUnderlying73 rfl (wrap_u64_nat (by omega))) ?_)
              refine gl_op (op_rd rfl (rd_shl (a := 1) rfl rfl (by first | exact pw_lt (by omega) | omega) (by first | exact pw_lt (by omega) | omega)) ?_)
              refine gl_op (op_rd rfl (rd_or rfl rfl (by first | exact Nat.lt_trans hm (by decide) | exact shl_lt (by omega)) (by first | exact Nat.lt_trans hm (by decide) | exact shl_lt (by omega))) ?_)
              have hy := src_wok hd f1 (i + 1) (m ||| 1 <<< k) (by omega)
              obtain ⟨Y, hY⟩ : ∃ Y, srcW l w f1 (i + 1) (m ||| 1 <<< k) = Y := ⟨_, rfl⟩
              rw [hY] at hy
              have hy0 := hy.a0
              have hy1 := hy.a1
              have hy2 := hy.b0
              have hy3 := hy.b1
              refine gl_op (op_callT [_, _, _, _, _] (T3.map Ca.hl) rfl rfl (vf := []) (vc := []) rfl rfl Try.call34 (Sc := (T3.map Ca.hl).filterMap HL.block) rfl (fun wz ho hcc => sbest_all hd (T0.map Ca.b) ⟨bb, 0, none⟩ a b (rowA rk) ca cb ck ((i + 1)) (m ||| 1 <<< k) T3 wz (by omega) hb3 hc3 hcc (or_lt hm (by omega)) (ho.blkCells 3 rfl) (ho.blkOutT 3 rfl) (hl.atTail ho (by decide)) (hw.atTail ho (by decide)) (ho.rowSlT 4 rfl)) ?_)
              rintro _ _ ⟨rfl, T4, rfl, hb4, hc4⟩
              rw [show w.length - (i + 1) = f1 by omega, hY]
              refine gl_op (op_alloc ty_71 rfl rfl (fun b17 => ?_))
              first | refine gl_op (op_storeAgg 0 ty_71 rfl rfl rfl rfl rfl rfl (by first | rfl | (simp only [List.set_cons_succ, List.set_cons_zero]; exact rfl)) ?_) | refine gl_op (op_storeAgg 1 ty_71 rfl rfl rfl rfl rfl rfl (by first | rfl | (simp only [List.set_cons_succ, List.set_cons_zero]; exact rfl)) ?_) | refine gl_op (op_storeAgg 3 ty_71 rfl rfl rfl rfl rfl rfl (by first | rfl | (simp only [List.set_cons_succ, List.set_cons_zero]; exact rfl)) ?_) | refine gl_op (op_storeAgg 4 ty_71 rfl rfl rfl rfl rfl rfl (by first | rfl | (simp only [List.set_cons_succ, List.set_cons_zero]; exact rfl)) ?_) | refine gl_op (op_storeRowAgg 2 ty_71 rfl rfl rfl rfl rfl (by simp; omega) (by first | rfl | (simp only [List.set_cons_succ, List.set_cons_zero]; exact rfl)) ?_) | refine gl_op (op_storeRowAgg 5 ty_71 rfl rfl rfl rfl rfl (by simp; omega) (by first | rfl | (simp only [List.set_cons_succ, List.set_cons_zero]; exact rfl)) ?_)
              refine gl_nil ?_
              refine gx_then ?_
              refine gc_seq ?_
              refine gc_region ?_
              refine gl_op (op_rd rfl (rd_fieldAddr rfl (fa_71_0 _)) ?_)
              refine gl_op (op_rd rfl (rd_load Try.underlying3 rfl rfl (by first | exact ld_blk 0 rfl rfl | exact ld_blk 1 rfl rfl | exact ld_blk 3 rfl rfl | exact ld_blk 4 rfl rfl | exact ld_rowN 2 rfl (get_nats (by omega)) | exact ld_rowN 5 rfl (get_nats (by omega)) | exact ld_slN (by assumption) (get_nats (by omega)) | exact ld_rowN 2 rfl (get_ints (by omega)) | exact ld_rowN 5 rfl (get_ints (by omega)) | exact ld_slN (by assumption) (get_ints (by omega)) | exact ld_old (by assumption) (by simp) | exact ld_cells (by assumption) (by simp) rfl)) ?_)
              refine gl_op (op_rd rfl (rd_add rfl rfl (by omega) (by omega)) ?_)
              refine gl_op (op_rd rfl (rd_fieldAddr rfl (fa_71_0 _)) ?_)
              refine gl_op (op_rd rfl (rd_load Try.underlying3 rfl rfl (by first | exact ld_blk 0 rfl rfl | exact ld_blk 1 rfl rfl | exact ld_blk 3 rfl rfl | exact ld_blk 4 rfl rfl | exact ld_rowN 2 rfl (get_nats (by omega)) | exact ld_rowN 5 rfl (get_nats (by omega)) | exact ld_slN (by assumption) (get_nats (by omega)) | exact ld_rowN 2 rfl (get_ints (by omega)) | exact ld_rowN 5 rfl (get_ints (by omega)) | exact ld_slN (by assumption) (get_ints (by omega)) | exact ld_old (by assumption) (by simp) | exact ld_cells (by assumption) (by simp) rfl)) ?_)
              refine gl_op (op_rd rfl (rd_eql rfl rfl) (gk_dec (fun h79 => ?_) (fun h79 => ?_)))
              · skip
                refine gl_op (op_rd rfl (rd_move rfl) ?_)
                refine gl_yes rfl rfl (op_rd rfl (rd_fieldAddr rfl (fa_71_1 _)) ?_)
                refine gl_yes rfl rfl (op_rd rfl (rd_load Try.underlying2 rfl rfl (by first | exact ld_blk 0 rfl rfl | exact ld_blk 1 rfl rfl | exact ld_blk 3 rfl rfl | exact ld_blk 4 rfl rfl | exact ld_rowN 2 rfl (get_nats (by omega)) | exact ld_rowN 5 rfl (get_nats (by omega)) | exact ld_slN (by assumption) (get_nats (by omega)) | exact ld_rowN 2 rfl (get_ints (by omega)) | exact ld_rowN 5 rfl (get_ints (by omega)) | exact ld_slN (by assumption) (get_ints (by omega)) | exact ld_old (by assumption) (by simp) | exact ld_cells (by assumption) (by simp) rfl)) ?_)
                refine gl_yes rfl rfl (op_rd rfl (rd_move rfl) ?_)
                refine gl_yes rfl rfl (op_rd rfl (rd_add rfl rfl (by omega) (by omega)) ?_)
                refine gl_yes rfl rfl (op_rd rfl (rd_fieldAddr rfl (fa_71_1 _)) ?_)
                refine gl_yes rfl rfl (op_rd rfl (rd_load Try.underlying2 rfl rfl (by first | exact ld_blk 0 rfl rfl | exact ld_blk 1 rfl rfl | exact ld_blk 3 rfl rfl | exact ld_blk 4 rfl rfl | exact ld_rowN 2 rfl (get_nats (by omega)) | exact ld_rowN 5 rfl (get_nats (by omega)) | exact ld_slN (by assumption) (get_nats (by omega)) | exact ld_rowN 2 rfl (get_ints (by omega)) | exact ld_rowN 5 rfl (get_ints (by omega)) | exact ld_slN (by assumption) (get_ints (by omega)) | exact ld_old (by assumption) (by simp) | exact ld_cells (by assumption) (by simp) rfl)) ?_)
                refine gl_yes rfl rfl (op_rd rfl (rd_eql rfl rfl) (gk_dec (fun h87 => ?_) (fun h87 => ?_)))
                · skip
                  have hok : okW l x (srcW l w f1 (i + 1)) m r k = true := by
                    unfold okW; rw [hpd, hoff, hY, decide_eq_true (show tryW p x Y = r from Prod.ext h79 h87)]; rfl
                  refine gl_op (op_rd rfl (rd_pick_t rfl rfl) ?_)
                  refine gl_nil ?_
                  refine gx_then ?_
                  refine gc_cond_t rfl ?_
                  refine gc_drawP [0, 1, 2, 3, 4, 5] false 3 rfl ?_
                  refine ga_first 0 #[true, false, false, false] rfl rfl rfl rfl (by kernel_rfl) rfl ⟨[0, 1, 2, 3, 4, 5], by decide, rfl⟩ (qt_rd (rd_move rfl)) ?_
                  refine ga_first 1 #[true, true, false, false] rfl rfl rfl rfl (by kernel_rfl) rfl ⟨[0, 1, 2, 3, 4, 5], by decide, rfl⟩ (qt_rd (rd_loadAgg Try.underlying71 rfl ty_71 rfl (by first | exact cs_blk 0 (off := 0) (k := 2) rfl rfl | exact cs_blk 1 (off := 0) (k := 2) rfl rfl | exact cs_blk 3 (off := 0) (k := 2) rfl rfl | exact cs_blk 4 (off := 0) (k := 2) rfl rfl | exact cs_old (by assumption) (by simp)) rfl)) ?_
                  refine ga_first 2 #[true, true, true, false] rfl rfl rfl rfl (by kernel_rfl) rfl ⟨[0, 1, 2, 3, 4, 5], by decide, rfl⟩ (qt_rd (rd_assign rfl)) ?_
                  first | refine ga_only 3 #[true, true, true, true] rfl rfl (by kernel_rfl) rfl (.inr ⟨[0, 1, 2, 3, 4, 5], by decide, rfl⟩) (op_storeAgg 0 ty_71 rfl rfl rfl rfl rfl rfl (by first | rfl | (simp only [List.set_cons_succ, List.set_cons_zero]; exact rfl)) ?_) | refine ga_only 3 #[true, true, true, true] rfl rfl (by kernel_rfl) rfl (.inr ⟨[0, 1, 2, 3, 4, 5], by decide, rfl⟩) (op_storeAgg 1 ty_71 rfl rfl rfl rfl rfl rfl (by first | rfl | (simp only [List.set_cons_succ, List.set_cons_zero]; exact rfl)) ?_) | refine ga_only 3 #[true, true, true, true] rfl rfl (by kernel_rfl) rfl (.inr ⟨[0, 1, 2, 3, 4, 5], by decide, rfl⟩) (op_storeAgg 3 ty_71 rfl rfl rfl rfl rfl rfl (by first | rfl | (simp only [List.set_cons_succ, List.set_cons_zero]; exact rfl)) ?_) | refine ga_only 3 #[true, true, true, true] rfl rfl (by kernel_rfl) rfl (.inr ⟨[0, 1, 2, 3, 4, 5], by decide, rfl⟩) (op_storeAgg 4 ty_71 rfl rfl rfl rfl rfl rfl (by first | rfl | (simp only [List.set_cons_succ, List.set_cons_zero]; exact rfl)) ?_) | refine ga_only 3 #[true, true, true, true] rfl rfl (by kernel_rfl) rfl (.inr ⟨[0, 1, 2, 3, 4, 5], by decide, rfl⟩) (op_storeRowAgg 2 ty_71 rfl rfl rfl rfl rfl (by simp; omega) (by first | rfl | (simp only [List.set_cons_succ, List.set_cons_zero]; exact rfl)) ?_) | refine ga_only 3 #[true, true, true, true] rfl rfl (by kernel_rfl) rfl (.inr ⟨[0, 1, 2, 3, 4, 5], by decide, rfl⟩) (op_storeRowAgg 5 ty_71 rfl rfl rfl rfl rfl (by simp; omega) (by first | rfl | (simp only [List.set_cons_succ, List.set_cons_zero]; exact rfl)) ?_)
                  refine ga_end (by kernel_rfl) (.inl (by kernel_rfl)) ?_
                  refine gx_block ?_
                  refine gx_then ?_
                  refine gc_region ?_
                  refine gl_op (op_rd rfl (rd_move rfl) ?_)
                  refine gl_op (op_rd rfl (by first | exact rd_addN (b := 1) rfl rfl (by omega) | exact rd_add rfl rfl (by omega) (by omega)) ?_)
                  refine gl_op (op_rd rfl (rd_assign rfl) ?_)
                  refine gl_nil ?_
                  refine gx_then ?_
                  exact gx_cut ((k + 1, (k : Int), Y, T4)) ⟨⟨by simp only; omega, by simp only; rw [scan_succ, ← hsc]; unfold scanStep; simp only; rw [if_neg (by omega), hY, if_pos hok], by simp only; omega, by simp only; omega, hb4, hc4⟩, by simp only; omega⟩ ⟨rfl, rfl, rfl, rfl, rfl, rfl, rfl, rfl, rfl, rfl, trivial⟩ (sub_tail (A := [_, _, _, _, _]) (B := [_, _, _, _, _, _]) (T := (T4.map Ca.hl)) [1, 2, 3, 4, 5] 6 (by decide) (by decide) rfl rfl)
                · skip
                  have hok : okW l x (srcW l w f1 (i + 1)) m r k = false := by
                    unfold okW; rw [hpd, hoff, hY, decide_eq_false (fun e => h87 (congrArg Prod.snd e))]; rfl
                  refine gl_op (op_rd rfl (rd_pick_t rfl rfl) ?_)
                  refine gl_nil ?_
                  refine gx_then ?_
                  refine gc_cond_f rfl ?_
                  refine gc_skip ?_
                  refine gx_block ?_
                  refine gx_then ?_
                  refine gc_region ?_
                  refine gl_op (op_rd rfl (rd_move rfl) ?_)
                  refine gl_op (op_rd rfl (by first | exact rd_addN (b := 1) rfl rfl (by omega) | exact rd_add rfl rfl (by omega) (by omega)) ?_)
                  refine gl_op (op_rd rfl (rd_assign rfl) ?_)
                  refine gl_nil ?_
                  refine gx_then ?_
                  exact gx_cut ((k + 1, ch, r, T4)) ⟨⟨by simp only; omega, by simp only; rw [scan_succ, ← hsc]; unfold scanStep; simp only; rw [if_neg (by omega), if_neg (by rw [hok]; decide)], hch, by simp only; omega, hb4, hc4⟩, by simp only; omega⟩ ⟨rfl, rfl, rfl, rfl, rfl, rfl, rfl, rfl, rfl, rfl, trivial⟩ (sub_tail (A := [_, _, _, _, _]) (B := [_, _, _, _, _, _]) (T := (T4.map Ca.hl)) [1, 2, 3, 4, 5] 6 (by decide) (by decide) rfl rfl)
              · skip
                have hok : okW l x (srcW l w f1 (i + 1)) m r k = false := by
                  unfold okW; rw [hpd, hoff, hY, decide_eq_false (fun e => h79 (congrArg Prod.fst e))]; rfl
                refine gl_op (op_rd rfl (rd_move rfl) ?_)
                refine gl_no rfl rfl rfl ?_
                refine gl_no rfl rfl rfl ?_
                refine gl_no rfl rfl rfl ?_
                refine gl_no rfl rfl rfl ?_
                refine gl_no rfl rfl rfl ?_
                refine gl_no rfl rfl rfl ?_
                refine gl_no rfl rfl rfl ?_
                refine gl_op (op_rd rfl (rd_pick_f rfl rfl) ?_)
                refine gl_nil ?_
                refine gx_then ?_
                refine gc_cond_f rfl ?_
                refine gc_skip ?_
                refine gx_block ?_
                refine gx_then ?_
                refine gc_region ?_
                refine gl_op (op_rd rfl (rd_move rfl) ?_)
                refine gl_op (op_rd rfl (by first | exact rd_addN (b := 1) rfl rfl (by omega) | exact rd_add rfl rfl (by omega) (by omega)) ?_)
                refine gl_op (op_rd rfl (rd_assign rfl) ?_)
                refine gl_nil ?_
                refine gx_then ?_
                exact gx_cut ((k + 1, ch, r, T4)) ⟨⟨by simp only; omega, by simp only; rw [scan_succ, ← hsc]; unfold scanStep; simp only; rw [if_neg (by omega), if_neg (by rw [hok]; decide)], hch, by simp only; omega, hb4, hc4⟩, by simp only; omega⟩ ⟨rfl, rfl, rfl, rfl, rfl, rfl, rfl, rfl, rfl, rfl, trivial⟩ (sub_tail (A := [_, _, _, _, _]) (B := [_, _, _, _, _, _]) (T := (T4.map Ca.hl)) [1, 2, 3, 4, 5] 6 (by decide) (by decide) rfl rfl)
        · skip
          have hfin : (ch, rr) = scanW l x (srcW l w f1 (i + 1)) m r l.length := by
            have h0 : 0 ≤ (scanW l x (srcW l w f1 (i + 1)) m r k).1 := by rw [← hsc]; simp only; omega
            have := scan_stay h0 (l.length - k)
            rw [show k + (l.length - k) = l.length by omega] at this
            rw [hsc, this]
          refine gl_op (op_rd rfl (rd_pick_t rfl rfl) ?_)
          refine gl_nil ?_
          refine gx_then ?_
          refine gc_cond_f rfl ?_
          refine gc_exit ?_
          refine gx_then_exit ?_
          refine gx_then_exit ?_
          refine gx_block_exit ?_
          refine gx_then ?_
          refine gc_seq ?_
          refine gc_seq ?_
          refine gc_region ?_
          refine gl_op (op_rd rfl (rd_move rfl) ?_)
          refine gl_op (op_rd rfl (rd_geq rfl rfl) (gk_dec (fun h92 => ?_) (fun h92 => ?_)))
          · skip
            obtain ⟨q, rfl⟩ : ∃ q : Nat, ch = q := ⟨ch.toNat, by omega⟩
            have hout2 : out ++ ((q : Int) :: refW l w f1 (i + 1) (m ||| 1 <<< q) rr) = res := by
              rw [← hfin] at hout
              exact hout
            have hq : q < 40 := by omega
            refine gl_nil ?_
            refine gx_then ?_
            refine gc_cond_t rfl ?_
            refine gc_region ?_
            refine gl_op (op_rd rfl (rd_move rfl) ?_)
            refine gl_op (op_rd rfl (rd_move rfl) ?_)
            refine gl_op (op_rd rfl (rd_conv Try.runUnderlying3 Try.runUnderlying73 rfl (wrap_u64_nat (by omega))) ?_)
            refine gl_op (op_rd rfl (rd_shl (a := 1) rfl rfl (by first | exact pw_lt (by omega) | omega) (by first | exact pw_lt (by omega) | omega)) ?_)
            refine gl_op (op_rd rfl (rd_or rfl rfl (by first | exact Nat.lt_trans hm (by decide) | exact shl_lt (by omega)) (by first | exact Nat.lt_trans hm (by decide) | exact shl_lt (by omega))) ?_)
            refine gl_op (op_rd rfl (rd_assign rfl) ?_)
            refine gl_nil ?_
            refine gx_then ?_
            refine gc_region ?_
            refine gl_op (op_rd rfl (rd_move rfl) ?_)
            refine gl_op (op_rd rfl (rd_move rfl) ?_)
            refine gl_op (op_buildSlice (sz := 1) rfl rfl (fun _ => bs_39_1_0 _) rfl rfl (fun b100 => ?_))
            refine gl_op (op_appendRow 2 0 Try.underlying39 ty_3 rfl (by decide) rfl rfl rfl rfl rfl (by simp [Value.oneCell']) (by omega) (by omega) (fun _ => (by first | rfl | (simp only [List.set_cons_succ, List.set_cons_zero]; exact rfl))) (fun r101 c101 => ?_))
            refine gl_op (op_rd rfl (rd_assign rfl) ?_)
            refine gl_nil ?_
            refine gx_block ?_
            refine gx_then ?_
            rw [snocI out (q : Int), snoc_len out (q : Int)]
            refine gc_region ?_
            refine gl_op (op_rd rfl (rd_move rfl) ?_)
            refine gl_op (op_rd rfl (by first | exact rd_addN (b := 1) rfl rfl (by omega) | exact rd_add rfl rfl (by omega) (by omega)) ?_)
            refine gl_op (op_rd rfl (rd_assign rfl) ?_)
            refine gl_nil ?_
            refine gx_then ?_
            exact gx_cut ((i + 1, out ++ [(q : Int)], m ||| 1 <<< q, rr, r101, c101, T3)) ⟨⟨by simp only; omega, by simp only; rw [show w.length - (i + 1) = f1 by omega, List.append_assoc]; exact hout2, or_lt hm (by omega), by simp [hol], hb3, hc3⟩, by simp only; omega⟩ ⟨rfl, rfl, rfl, rfl, rfl, rfl, rfl, rfl, trivial⟩ (sub_tail (A := [_, _, _, _, _]) (B := [_, _, _, _, _, _]) (T := (T3.map Ca.hl)) [2, 1, 3, 4, 5] 6 (by decide) (by decide) rfl rfl)
          · skip
            have hout2 : out ++ (ch :: refW l w f1 (i + 1) m rr) = res := by
              rw [← hfin] at hout
              simp only [takeW] at hout
              rw [if_neg (by omega)] at hout
              exact hout
            refine gl_nil ?_
            refine gx_then ?_
            refine gc_cond_f rfl ?_
            refine gc_skip ?_
            refine gx_then ?_
            refine gc_region ?_
            refine gl_op (op_rd rfl (rd_move rfl) ?_)
            refine gl_op (op_rd rfl (rd_move rfl) ?_)
            refine gl_op (op_buildSlice (sz := 1) rfl rfl (fun _ => bs_39_1_0 _) rfl rfl (fun b100 => ?_))
            refine gl_op (op_appendRow 2 0 Try.underlying39 ty_3 rfl (by decide) rfl rfl rfl rfl rfl (by simp [Value.oneCell']) (by omega) (by omega) (fun _ => (by first | rfl | (simp only [List.set_cons_succ, List.set_cons_zero]; exact rfl))) (fun r101 c101 => ?_))
            refine gl_op (op_rd rfl (rd_assign rfl) ?_)
            refine gl_nil ?_
            refine gx_block ?_
            refine gx_then ?_
            rw [snocI out ch, snoc_len out ch]
            refine gc_region ?_
            refine gl_op (op_rd rfl (rd_move rfl) ?_)
            refine gl_op (op_rd rfl (by first | exact rd_addN (b := 1) rfl rfl (by omega) | exact rd_add rfl rfl (by omega) (by omega)) ?_)
            refine gl_op (op_rd rfl (rd_assign rfl) ?_)
            refine gl_nil ?_
            refine gx_then ?_
            exact gx_cut ((i + 1, out ++ [ch], m, rr, r101, c101, T3)) ⟨⟨by simp only; omega, by simp only; rw [show w.length - (i + 1) = f1 by omega, List.append_assoc]; exact hout2, hm, by simp [hol], hb3, hc3⟩, by simp only; omega⟩ ⟨rfl, rfl, rfl, rfl, rfl, rfl, rfl, rfl, trivial⟩ (sub_tail (A := [_, _, _, _, _]) (B := [_, _, _, _, _, _]) (T := (T3.map Ca.hl)) [2, 1, 3, 4, 5] 6 (by decide) (by decide) rfl rfl)
      · skip
        have hfin : (ch, rr) = scanW l x (srcW l w f1 (i + 1)) m r l.length := by rw [hsc, show k = l.length by omega]
        refine gl_op (op_rd rfl (rd_move rfl) ?_)
        refine gl_no rfl rfl rfl ?_
        refine gl_no rfl rfl rfl ?_
        refine gl_op (op_rd rfl (rd_pick_f rfl rfl) ?_)
        refine gl_nil ?_
        refine gx_then ?_
        refine gc_cond_f rfl ?_
        refine gc_exit ?_
        refine gx_then_exit ?_
        refine gx_then_exit ?_
        refine gx_block_exit ?_
        refine gx_then ?_
        refine gc_seq ?_
        refine gc_seq ?_
        refine gc_region ?_
        refine gl_op (op_rd rfl (rd_move rfl) ?_)
        refine gl_op (op_rd rfl (rd_geq rfl rfl) (gk_dec (fun h92 => ?_) (fun h92 => ?_)))
        · skip
          obtain ⟨q, rfl⟩ : ∃ q : Nat, ch = q := ⟨ch.toNat, by omega⟩
          have hout2 : out ++ ((q : Int) :: refW l w f1 (i + 1) (m ||| 1 <<< q) rr) = res := by
            rw [← hfin] at hout
            exact hout
          have hq : q < 40 := by omega
          refine gl_nil ?_
          refine gx_then ?_
          refine gc_cond_t rfl ?_
          refine gc_region ?_
          refine gl_op (op_rd rfl (rd_move rfl) ?_)
          refine gl_op (op_rd rfl (rd_move rfl) ?_)
          refine gl_op (op_rd rfl (rd_conv Try.runUnderlying3 Try.runUnderlying73 rfl (wrap_u64_nat (by omega))) ?_)
          refine gl_op (op_rd rfl (rd_shl (a := 1) rfl rfl (by first | exact pw_lt (by omega) | omega) (by first | exact pw_lt (by omega) | omega)) ?_)
          refine gl_op (op_rd rfl (rd_or rfl rfl (by first | exact Nat.lt_trans hm (by decide) | exact shl_lt (by omega)) (by first | exact Nat.lt_trans hm (by decide) | exact shl_lt (by omega))) ?_)
          refine gl_op (op_rd rfl (rd_assign rfl) ?_)
          refine gl_nil ?_
          refine gx_then ?_
          refine gc_region ?_
          refine gl_op (op_rd rfl (rd_move rfl) ?_)
          refine gl_op (op_rd rfl (rd_move rfl) ?_)
          refine gl_op (op_buildSlice (sz := 1) rfl rfl (fun _ => bs_39_1_0 _) rfl rfl (fun b100 => ?_))
          refine gl_op (op_appendRow 2 0 Try.underlying39 ty_3 rfl (by decide) rfl rfl rfl rfl rfl (by simp [Value.oneCell']) (by omega) (by omega) (fun _ => (by first | rfl | (simp only [List.set_cons_succ, List.set_cons_zero]; exact rfl))) (fun r101 c101 => ?_))
          refine gl_op (op_rd rfl (rd_assign rfl) ?_)
          refine gl_nil ?_
          refine gx_block ?_
          refine gx_then ?_
          rw [snocI out (q : Int), snoc_len out (q : Int)]
          refine gc_region ?_
          refine gl_op (op_rd rfl (rd_move rfl) ?_)
          refine gl_op (op_rd rfl (by first | exact rd_addN (b := 1) rfl rfl (by omega) | exact rd_add rfl rfl (by omega) (by omega)) ?_)
          refine gl_op (op_rd rfl (rd_assign rfl) ?_)
          refine gl_nil ?_
          refine gx_then ?_
          exact gx_cut ((i + 1, out ++ [(q : Int)], m ||| 1 <<< q, rr, r101, c101, T3)) ⟨⟨by simp only; omega, by simp only; rw [show w.length - (i + 1) = f1 by omega, List.append_assoc]; exact hout2, or_lt hm (by omega), by simp [hol], hb3, hc3⟩, by simp only; omega⟩ ⟨rfl, rfl, rfl, rfl, rfl, rfl, rfl, rfl, trivial⟩ (sub_tail (A := [_, _, _, _, _]) (B := [_, _, _, _, _, _]) (T := (T3.map Ca.hl)) [2, 1, 3, 4, 5] 6 (by decide) (by decide) rfl rfl)
        · skip
          have hout2 : out ++ (ch :: refW l w f1 (i + 1) m rr) = res := by
            rw [← hfin] at hout
            simp only [takeW] at hout
            rw [if_neg (by omega)] at hout
            exact hout
          refine gl_nil ?_
          refine gx_then ?_
          refine gc_cond_f rfl ?_
          refine gc_skip ?_
          refine gx_then ?_
          refine gc_region ?_
          refine gl_op (op_rd rfl (rd_move rfl) ?_)
          refine gl_op (op_rd rfl (rd_move rfl) ?_)
          refine gl_op (op_buildSlice (sz := 1) rfl rfl (fun _ => bs_39_1_0 _) rfl rfl (fun b100 => ?_))
          refine gl_op (op_appendRow 2 0 Try.underlying39 ty_3 rfl (by decide) rfl rfl rfl rfl rfl (by simp [Value.oneCell']) (by omega) (by omega) (fun _ => (by first | rfl | (simp only [List.set_cons_succ, List.set_cons_zero]; exact rfl))) (fun r101 c101 => ?_))
          refine gl_op (op_rd rfl (rd_assign rfl) ?_)
          refine gl_nil ?_
          refine gx_block ?_
          refine gx_then ?_
          rw [snocI out ch, snoc_len out ch]
          refine gc_region ?_
          refine gl_op (op_rd rfl (rd_move rfl) ?_)
          refine gl_op (op_rd rfl (by first | exact rd_addN (b := 1) rfl rfl (by omega) | exact rd_add rfl rfl (by omega) (by omega)) ?_)
          refine gl_op (op_rd rfl (rd_assign rfl) ?_)
          refine gl_nil ?_
          refine gx_then ?_
          exact gx_cut ((i + 1, out ++ [ch], m, rr, r101, c101, T3)) ⟨⟨by simp only; omega, by simp only; rw [show w.length - (i + 1) = f1 by omega, List.append_assoc]; exact hout2, hm, by simp [hol], hb3, hc3⟩, by simp only; omega⟩ ⟨rfl, rfl, rfl, rfl, rfl, rfl, rfl, rfl, trivial⟩ (sub_tail (A := [_, _, _, _, _]) (B := [_, _, _, _, _, _]) (T := (T3.map Ca.hl)) [2, 1, 3, 4, 5] 6 (by decide) (by decide) rfl rfl)
    · skip
      refine gl_nil ?_
      refine gx_then ?_
      refine gc_cond_f rfl ?_
      refine gc_exit ?_
      refine gx_then_exit ?_
      refine gx_then_exit ?_
      refine gx_block_exit ?_
      refine gx_then ?_
      refine gc_seq ?_
      refine gc_drawP [0, 1, 2, 3, 4] true 5 rfl ?_
      refine ga_first 0 #[true, false, false, false, false, false] rfl rfl rfl rfl (by kernel_rfl) rfl ⟨[0, 1, 2, 3, 4], by decide, rfl⟩ (qt_rd (rd_move rfl)) ?_
      refine ga_first 1 #[true, true, false, false, false, false] rfl rfl rfl rfl (by kernel_rfl) rfl ⟨[0, 1, 2, 3, 4], by decide, rfl⟩ (qt_rd (rd_fieldAddr rfl (fa_71_1 _))) ?_
      refine ga_first 2 #[true, true, true, false, false, false] rfl rfl rfl rfl (by kernel_rfl) rfl ⟨[0, 1, 2, 3, 4], by decide, rfl⟩ (qt_rd (rd_load Try.underlying2 rfl rfl (by first | exact ld_blk 1 rfl rfl | exact ld_blk 2 rfl rfl | exact ld_blk 3 rfl rfl | exact ld_rowN 0 rfl (get_nats (by omega)) | exact ld_rowN 4 rfl (get_nats (by omega)) | exact ld_slN (by assumption) (get_nats (by omega)) | exact ld_rowN 0 rfl (get_ints (by omega)) | exact ld_rowN 4 rfl (get_ints (by omega)) | exact ld_slN (by assumption) (get_ints (by omega)) | exact ld_old (by assumption) (by simp) | exact ld_cells (by assumption) (by simp) rfl))) ?_
      refine ga_first 3 #[true, true, true, true, false, false] rfl rfl rfl rfl (by kernel_rfl) rfl ⟨[0, 1, 2, 3, 4], by decide, rfl⟩ (qt_rd (rd_assign rfl)) ?_
      refine ga_first 4 #[true, true, true, true, true, false] rfl rfl rfl rfl (by kernel_rfl) rfl ⟨[0, 1, 2, 3, 4], by decide, rfl⟩ (qt_rd (rd_assign rfl)) ?_
      refine ga_first 5 #[true, true, true, true, true, true] rfl rfl rfl rfl (by kernel_rfl) rfl ⟨[0, 1, 2, 3, 4], by decide, rfl⟩ (qt_rd (rd_assign rfl)) ?_
      refine ga_end (by kernel_rfl) (.inr ⟨[0, 1, 2, 3, 4], by decide, rfl⟩) ?_
      refine gx_then ?_
      refine gc_ret ?_
      refine gx_ret3 (.inl rfl) Try.results15 rfl rfl rfl [0] (by decide) ?_
      have hor : out = res := by rw [show w.length - i = 0 by omega, refW, List.append_nil] at hout; exact hout
      exact ⟨r10, c10, by rw [← hor, hres2], by rw [← hor]; rfl⟩

end Go.Proofs.Yteiopfefmphhaaa

set_option autoImplicit false
set_option linter.unusedVariables false
namespace Go.Proofs.Yteiopfefmphhaaa
open Go.Gv
open Go.RowKit
namespace Iv
def wle (a b : Wth) : Prop := a.1 < b.1 ∨ (a.1 = b.1 ∧ b.2 ≤ a.2)
theorem wle_refl (a : Wth) : wle a a := .inr ⟨rfl, Int.le_refl _⟩
theorem wle_trans {a b c : Wth} (h1 : wle a b) (h2 : wle b c) : wle a c := by unfold wle at *; omega
theorem wle_anti {a b : Wth} (h1 : wle a b) (h2 : wle b a) : a = b := by unfold wle at *; exact Prod.ext (by omega) (by omega)
theorem btr_iff (a b : Wth) : btr a b = true ↔ ¬ wle a b := by
  unfold btr wle
  simp only [Bool.or_eq_true, Bool.and_eq_true, decide_eq_true_eq]
  omega
theorem try_mono {p : Pipe} {x : Wish} {a b : Wth} (h : wle a b) : wle (tryW p x a) (tryW p x b) := by unfold wle tryW at *; simp only; omega
theorem try_inj {p : Pipe} {x : Wish} {a b : Wth} (h : tryW p x a = tryW p x b) : a = b := by
  have h1 := congrArg Prod.fst h
  have h2 := congrArg Prod.snd h
  simp only [tryW] at h1 h2
  exact Prod.ext (by omega) (by omega)
section
variable {l : List Pipe} {x : Wish} {g : Nat → Wth} {m : Nat}
theorem step_le (b : Wth) (k : Nat) : wle b (stepW l x g m b k) := by
  unfold stepW
  split
  · exact wle_refl _
  · split
    · rename_i h
      have := (btr_iff _ _).1 h
      unfold wle at *; omega
    · exact wle_refl _
theorem step_try (b : Wth) (k : Nat) (h : offW (l.getD k default) x m k = false) : wle (tryW (l.getD k default) x (g (m ||| 1 <<< k))) (stepW l x g m b k) := by
  unfold stepW
  rw [if_neg (by rw [h]; decide)]
  split
  · exact wle_refl _
  · rename_i h1
    rw [btr_iff] at h1
    exact Classical.not_not.1 h1
theorem fold_ge0 : ∀ n, wle (g m) (foldW l x g m n)
  | 0 => wle_refl _
  | n + 1 => by rw [foldW_succ]; exact wle_trans (fold_ge0 n) (step_le _ _)
theorem fold_ge (k : Nat) (h : offW (l.getD k default) x m k = false) : ∀ n, k < n → wle (tryW (l.getD k default) x (g (m ||| 1 <<< k))) (foldW l x g m n)
  | 0, hk => by omega
  | n + 1, hk => by
    rw [foldW_succ]
    by_cases e : k = n
    · subst e; exact step_try _ _ h
    · exact wle_trans (fold_ge k h n (by omega)) (step_le _ _)
theorem fold_is : ∀ n, foldW l x g m n = g m ∨ ∃ k, k < n ∧ offW (l.getD k default) x m k = false ∧ foldW l x g m n = tryW (l.getD k default) x (g (m ||| 1 <<< k))
  | 0 => .inl rfl
  | n + 1 => by
    rw [foldW_succ]
    have ih : stepW l x g m (foldW l x g m n) n = foldW l x g m n → (stepW l x g m (foldW l x g m n) n = g m ∨ ∃ k, k < n + 1 ∧ offW (l.getD k default) x m k = false ∧ stepW l x g m (foldW l x g m n) n = tryW (l.getD k default) x (g (m ||| 1 <<< k))) := fun e => by
      rw [e]
      rcases fold_is n with h | ⟨k, h1, h2, h3⟩
      · exact .inl h
      · exact .inr ⟨k, by omega, h2, h3⟩
    cases ho : offW (l.getD n default) x m n with
    | true => exact ih (by unfold stepW; rw [if_pos ho])
    | false =>
      cases hb : btr (tryW (l.getD n default) x (g (m ||| 1 <<< n))) (foldW l x g m n) with
      | true => exact .inr ⟨n, by omega, ho, by unfold stepW; rw [if_neg (by rw [ho]; decide), if_pos hb]⟩
      | false => exact ih (by unfold stepW; rw [if_neg (by rw [ho]; decide), if_neg (by rw [hb]; decide)])
theorem okW_iff {r : Wth} {k : Nat} : okW l x g m r k = true ↔ offW (l.getD k default) x m k = false ∧ tryW (l.getD k default) x (g (m ||| 1 <<< k)) = r := by
  unfold okW; simp
theorem scan_is {r : Wth} : ∀ n, (scanW l x g m r n = (-1, r) ∧ ∀ k, k < n → okW l x g m r k = false) ∨ ∃ k, k < n ∧ scanW l x g m r n = ((k : Int), g (m ||| 1 <<< k)) ∧ okW l x g m r k = true ∧ ∀ q, q < k → okW l x g m r q = false
  | 0 => .inl ⟨rfl, fun k h => by omega⟩
  | n + 1 => by
    rw [scan_succ]
    rcases scan_is (r := r) n with ⟨h1, h2⟩ | ⟨k, h1, h2, h3, h4⟩
    · rw [h1]
      unfold scanStep
      simp only
      rw [if_neg (by omega)]
      cases hk : okW l x g m r n with
      | true => exact .inr ⟨n, by omega, rfl, hk, h2⟩
      | false => exact .inl ⟨rfl, fun k hk2 => by
          by_cases e : k = n
          · rw [e]; exact hk
          · exact h2 k (by omega)⟩
    · rw [h2]
      unfold scanStep
      simp only
      rw [if_pos (by omega)]
      exact .inr ⟨k, by omega, rfl, h3, h4⟩
end
section
variable (l : List Pipe) (w : List Wish)
def plan : Nat → Nat → List Int → Prop
  | _, _, [] => True
  | i, m, z :: c => (z = -1 ∧ plan (i + 1) m c) ∨ ∃ k : Nat, z = k ∧ k < l.length ∧ offW (l.getD k default) (w.getD i default) m k = false ∧ plan (i + 1) (m ||| 1 <<< k) c
def pval : Nat → List Int → Wth
  | _, [] => (0, 0)
  | i, z :: c => if z = -1 then pval (i + 1) c else tryW (l.getD z.toNat default) (w.getD i default) (pval (i + 1) c)
end
def colsF (n : Nat) : Nat → List Int → List Nat
  | _, [] => []
  | i, z :: c => colI n i z :: colsF n (i + 1) c
section
variable {l : List Pipe} {w : List Wish}
theorem plan_le : ∀ (f i m : Nat) (c : List Int), c.length = f → plan l w i m c → wle (pval l w i c) (srcW l w f i m)
  | 0, i, m, [], _, _ => wle_refl _
  | f + 1, i, m, [], h, _ => by simp at h
  | f + 1, i, m, z :: c, h, hp => by
    simp only [List.length_cons] at h
    rcases hp with ⟨rfl, hp⟩ | ⟨k, rfl, hk, ho, hp⟩
    · rw [pval, if_pos rfl]
      exact wle_trans (plan_le f (i + 1) m c (by omega) hp) (fold_ge0 _)
    · rw [pval, if_neg (by omega), Int.toNat_natCast]
      exact wle_trans (try_mono (plan_le f (i + 1) _ c (by omega) hp)) (fold_ge k ho _ hk)
theorem ref_ok : ∀ (f i m : Nat) (r : Wth), r = srcW l w f i m → (refW l w f i m r).length = f ∧ plan l w i m (refW l w f i m r) ∧ pval l w i (refW l w f i m r) = r ∧ ∀ c, c.length = f → plan l w i m c → pval l w i c = r → LexLe (colsF l.length i (refW l w f i m r)) (colsF l.length i c)
  | 0, i, m, r, hr => ⟨rfl, trivial, hr.symm, fun c _ _ _ => trivial⟩
  | f + 1, i, m, r, hr => by
    rw [refW_succ]
    generalize hx : w.getD i default = x
    have hr' : r = foldW l x (srcW l w f (i + 1)) m l.length := by rw [hr, ← hx]; rfl
    -- a choice of an optimal plan is one that the scan would take
    have hopt : ∀ k c, k < l.length → offW (l.getD k default) x m k = false → c.length = f → plan l w (i + 1) (m ||| 1 <<< k) c → tryW (l.getD k default) x (pval l w (i + 1) c) = r → okW l x (srcW l w f (i + 1)) m r k = true := fun k c hk ho hc hp e => by
      refine okW_iff.2 ⟨ho, ?_⟩
      have h1 := try_mono (p := l.getD k default) (x := x) (plan_le f (i + 1) _ c hc hp)
      rw [e] at h1
      have h2 := fold_ge (l := l) (x := x) (g := srcW l w f (i + 1)) (m := m) k ho _ hk
      rw [← hr'] at h2
      exact wle_anti h2 h1
    rcases scan_is (l := l) (x := x) (g := srcW l w f (i + 1)) (m := m) (r := r) l.length with ⟨h1, h2⟩ | ⟨k, h1, h2, h3, h4⟩
    · rw [h1]
      have hg : r = srcW l w f (i + 1) m := by
        rcases fold_is (l := l) (x := x) (g := srcW l w f (i + 1)) (m := m) l.length with h | ⟨k, a, b, c⟩
        · rw [hr', h]
        · have := h2 k a
          rw [okW_iff.2 ⟨b, by rw [hr']; exact c.symm⟩] at this
          cases this
      simp only [takeW]
      rw [if_neg (by omega)]
      obtain ⟨a1, a2, a3, a4⟩ := ref_ok f (i + 1) m r hg
      refine ⟨by rw [List.length_cons, a1], .inl ⟨rfl, a2⟩, by rw [pval, if_pos rfl]; exact a3, fun c hc hp hv => ?_⟩
      match c, hc, hp, hv with
      | [], hc, _, _ => simp at hc
      | z :: c, hc, hp, hv =>
        simp only [List.length_cons] at hc
        rcases hp with ⟨rfl, hp⟩ | ⟨k, rfl, hk, ho, hp⟩
        · rw [pval, if_pos rfl] at hv
          exact .inr ⟨rfl, a4 c (by omega) hp hv⟩
        · rw [pval, if_neg (by omega), Int.toNat_natCast, hx] at hv
          rw [hx] at ho
          have := hopt k c hk ho (by omega) hp hv
          rw [h2 k hk] at this
          cases this
    · rw [h2]
      simp only [takeW]
      rw [if_pos (by omega), Int.toNat_natCast]
      obtain ⟨a1, a2, a3, a4⟩ := ref_ok f (i + 1) (m ||| 1 <<< k) _ rfl
      obtain ⟨b1, b2⟩ := okW_iff.1 h3
      refine ⟨by rw [List.length_cons, a1], .inr ⟨k, rfl, h1, by rw [hx]; exact b1, a2⟩, by rw [pval, if_neg (by omega), Int.toNat_natCast, a3, hx]; exact b2, fun c hc hp hv => ?_⟩
      match c, hc, hp, hv with
      | [], hc, _, _ => simp at hc
      | z :: c, hc, hp, hv =>
        simp only [List.length_cons] at hc
        have hck : colI l.length i (k : Int) = k := by unfold colI; rw [if_neg (by omega), Int.toNat_natCast]
        rcases hp with ⟨rfl, hp⟩ | ⟨k2, rfl, hk, ho, hp⟩
        · have : colI l.length i (-1) = l.length + i := by unfold colI; rw [if_pos rfl]
          exact .inl (by rw [hck, this]; omega)
        · rw [pval, if_neg (by omega), Int.toNat_natCast, hx] at hv
          rw [hx] at ho
          have hck2 : colI l.length i (k2 : Int) = k2 := by unfold colI; rw [if_neg (by omega), Int.toNat_natCast]
          rcases Nat.lt_trichotomy k k2 with hlt | heq | hgt
          · exact .inl (by rw [hck, hck2]; exact hlt)
          · subst heq
            exact .inr ⟨rfl, a4 c (by omega) hp (try_inj (hv.trans b2.symm))⟩
          · have := hopt k2 c hk ho (by omega) hp hv
            rw [h4 k2 hgt] at this
            cases this
theorem lex_anti : ∀ (us vs : List Nat), us.length = vs.length → LexLe us vs → LexLe vs us → us = vs
  | [], [], _, _, _ => rfl
  | [], _ :: _, h, _, _ => by simp at h
  | _ :: _, [], h, _, _ => by simp at h
  | a :: us, b :: vs, h, h1, h2 => by
    rcases h1 with h1 | ⟨rfl, h1⟩
    · rcases h2 with h2 | ⟨e, _⟩ <;> omega
    · rcases h2 with h2 | ⟨_, h2⟩
      · omega
      · rw [lex_anti us vs (by simpa using h) h1 h2]
theorem colsF_eq (n : Nat) : ∀ (c : List Int) (i : Nat), colsF n i c = (List.range c.length).map fun q => colI n (i + q) (c.getD q 0)
  | [], i => rfl
  | z :: c, i => by
    rw [colsF, colsF_eq n c (i + 1), List.length_cons, List.range_succ_eq_map, List.map_cons, List.map_map]
    refine congr (congrArg List.cons (by simp)) ?_
    refine List.map_congr_left fun q _ => ?_
    simp only [Function.comp_apply, List.getD_cons_succ]
    rw [show i + 1 + q = i + (q + 1) by omega]
theorem colsF_zero (n : Nat) (c : List Int) : colsF n 0 c = colsI n c := by
  rw [colsF_eq]; unfold colsI; simp only [Nat.zero_add]
end
end Iv
end Go.Proofs.Yteiopfefmphhaaa

set_option autoImplicit false
set_option linter.unusedVariables false
namespace Go.Proofs.Yteiopfefmphhaaa
open Go.Gv
open Go.RowKit
namespace Iv
theorem bitN_test (m k : Nat) : bitN m k = m.testBit k := by
  unfold bitN
  rw [Nat.testBit, Nat.and_comm]
  rcases Nat.mod_two_eq_zero_or_one (m >>> k) with h | h <;> simp [Nat.one_and_eq_mod_two, h]
theorem bit_or (m k q : Nat) : bitN (m ||| 1 <<< k) q = (bitN m q || decide (q = k)) := by
  rw [bitN_test, bitN_test, Nat.testBit_or, Nat.one_shiftLeft, Nat.testBit_two_pow]
  congr 1
  exact decide_eq_decide.2 ⟨fun h => h.symm, fun h => h.symm⟩
theorem bit_zero (q : Nat) : bitN 0 q = false := by rw [bitN_test, Nat.zero_testBit]
section
variable {l : List Pipe} {w : List Wish} {xs : List Int}
/-- the set of pipes that the first wishes have -/
def UsedB (xs : List Int) (i m : Nat) : Prop := ∀ k : Nat, bitN m k = true ↔ ∃ j, j < i ∧ xs.getD j 0 = (k : Int)
theorem used_none {i m : Nat} (h : UsedB xs i m) (hz : xs.getD i 0 = -1) : UsedB xs (i + 1) m := fun k => by
  rw [h k]
  constructor
  · rintro ⟨j, h1, h2⟩; exact ⟨j, by omega, h2⟩
  · rintro ⟨j, h1, h2⟩
    by_cases e : j = i
    · subst e; rw [hz] at h2; omega
    · exact ⟨j, by omega, h2⟩
theorem used_one {i m k : Nat} (h : UsedB xs i m) (hz : xs.getD i 0 = (k : Int)) : UsedB xs (i + 1) (m ||| 1 <<< k) := fun q => by
  rw [bit_or, Bool.or_eq_true, decide_eq_true_eq, h q]
  constructor
  · rintro (⟨j, h1, h2⟩ | rfl)
    · exact ⟨j, by omega, h2⟩
    · exact ⟨i, by omega, hz⟩
  · rintro ⟨j, h1, h2⟩
    by_cases e : j = i
    · subst e; right; omega
    · exact .inl ⟨j, by omega, h2⟩
theorem used_bit {i m k : Nat} (h : UsedB xs i m) : bitN m k = false ↔ ∀ j, j < i → xs.getD j 0 ≠ (k : Int) := by
  have := h k
  constructor
  · intro hb j hj e
    have := this.2 ⟨j, hj, e⟩
    rw [hb] at this; cases this
  · intro hj
    cases hb : bitN m k with
    | false => rfl
    | true => obtain ⟨j, h1, h2⟩ := this.1 hb; exact absurd h2 (hj j h1)
theorem offW_iff {p : Pipe} {x : Wish} {m k : Nat} : offW p x m k = false ↔ fits p x = true ∧ bitN m k = false := by
  unfold offW; simp
theorem drop_get {i : Nat} (h : i < xs.length) : xs.drop i = xs.getD i 0 :: xs.drop (i + 1) := by
  rw [drop_at (List.getElem?_eq_getElem h)]
  simp [h]
theorem plan_of (hxl : xs.length = w.length) : ∀ (f i m : Nat), i + f = w.length → UsedB xs i m → (∀ q, i ≤ q → q < w.length → okAt l w xs q) → plan l w i m (xs.drop i)
  | 0, i, m, hf, _, _ => by rw [List.drop_eq_nil_of_le (by omega)]; trivial
  | f + 1, i, m, hf, hu, h => by
    rw [drop_get (by omega)]
    rcases h i (Nat.le_refl _) (by omega) with hz | hb
    · exact .inl ⟨hz, plan_of hxl f (i + 1) m (by omega) (used_none hu hz) fun q a b => h q (by omega) b⟩
    · obtain ⟨b1, b2, b3, b4⟩ := bad_iff.1 hb
      obtain ⟨k, hk⟩ : ∃ k : Nat, xs.getD i 0 = k := ⟨(xs.getD i 0).toNat, by omega⟩
      rw [hk, Int.toNat_natCast] at b3
      exact .inr ⟨k, hk, by omega, offW_iff.2 ⟨b3, (used_bit hu).2 fun j hj => by rw [← hk]; exact b4 j hj⟩, plan_of hxl f (i + 1) _ (by omega) (used_one hu hk) fun q a b => h q (by omega) b⟩
theorem of_plan (hxl : xs.length = w.length) : ∀ (f i m : Nat), i + f = w.length → UsedB xs i m → plan l w i m (xs.drop i) → ∀ q, i ≤ q → q < w.length → okAt l w xs q
  | 0, i, m, hf, _, _ => fun q a b => by omega
  | f + 1, i, m, hf, hu, h => fun q a b => by
    rw [drop_get (by omega)] at h
    rcases h with ⟨hz, hp⟩ | ⟨k, hk, h1, h2, hp⟩
    · by_cases e : q = i
      · subst e; exact .inl hz
      · exact of_plan hxl f (i + 1) m (by omega) (used_none hu hz) hp q (by omega) b
    · by_cases e : q = i
      · subst e
        obtain ⟨g1, g2⟩ := offW_iff.1 h2
        exact .inr (bad_iff.2 ⟨by omega, by omega, by rw [hk, Int.toNat_natCast]; exact g1, fun j hj => by rw [hk]; exact (used_bit hu).1 g2 j hj⟩)
      · exact of_plan hxl f (i + 1) _ (by omega) (used_one hu hk) hp q (by omega) b
theorem met_pval (hxl : xs.length = w.length) : ∀ (f i c : Nat) (k : Int), i + f = w.length → (∀ q, i ≤ q → q < w.length → okAt l w xs q) → metTo l w xs i = some (c, k) → ∃ (c2 : Nat) (k2 : Int), metTo l w xs w.length = some (c2, k2) ∧ (c2 : Int) = c + (pval l w i (xs.drop i)).1 ∧ k2 = k + (pval l w i (xs.drop i)).2
  | 0, i, c, k, hf, _, h => by
    rw [List.drop_eq_nil_of_le (by omega)]
    rw [show i = w.length by omega] at h
    exact ⟨c, k, h, by simp [pval], by simp [pval]⟩
  | f + 1, i, c, k, hf, hok, h => by
    rw [drop_get (by omega)]
    have hs := metTo_succ (l := l) (w := w) (xs := xs) i
    rw [h] at hs
    unfold metOne at hs
    simp only at hs
    rcases hok i (Nat.le_refl _) (by omega) with hz | hb
    · rw [if_pos hz] at hs
      obtain ⟨c2, k2, a1, a2, a3⟩ := met_pval hxl f (i + 1) c k (by omega) (fun q a b => hok q (by omega) b) hs
      rw [hz, pval, if_pos rfl]
      exact ⟨c2, k2, a1, a2, a3⟩
    · obtain ⟨b1, _⟩ := bad_iff.1 hb
      rw [if_neg (by omega), if_neg (by rw [hb]; decide)] at hs
      obtain ⟨c2, k2, a1, a2, a3⟩ := met_pval hxl f (i + 1) _ _ (by omega) (fun q a b => hok q (by omega) b) hs
      rw [pval, if_neg (by omega)]
      exact ⟨c2, k2, a1, by rw [a2]; simp only [tryW]; omega, by rw [a3]; simp only [tryW]; omega⟩
theorem used_zero (xs : List Int) : UsedB xs 0 0 := fun k => by
  rw [bit_zero]
  constructor
  · intro h; cases h
  · rintro ⟨j, h, _⟩; omega
/-- the value of a list that Met accepts, and the search -/
theorem met_src (hxl : xs.length = w.length) (hok : ∀ q, q < w.length → okAt l w xs q) : ∃ (c : Nat) (k : Int), metTo l w xs w.length = some (c, k) ∧ pval l w 0 xs = ((c : Int), k) ∧ plan l w 0 0 xs ∧ wle ((c : Int), k) (srcW l w w.length 0 0) := by
  have hp := plan_of (l := l) hxl w.length 0 0 (by omega) (used_zero xs) fun q _ b => hok q b
  obtain ⟨c, k, h1, h2, h3⟩ := met_pval (l := l) hxl w.length 0 0 0 (by omega) (fun q _ b => hok q b) rfl
  rw [List.drop_zero] at hp h2 h3
  have hv : pval l w 0 xs = ((c : Int), k) := Prod.ext (by simp only; omega) (by simp only; omega)
  exact ⟨c, k, h1, hv, hp, by rw [← hv]; exact plan_le w.length 0 0 xs hxl hp⟩
theorem cols_inj {n : Nat} {xs ys : List Int} (hl : xs.length = ys.length) (hx : ∀ i, i < xs.length → xs.getD i 0 = -1 ∨ (0 ≤ xs.getD i 0 ∧ xs.getD i 0 < n)) (hy : ∀ i, i < xs.length → ys.getD i 0 = -1 ∨ (0 ≤ ys.getD i 0 ∧ ys.getD i 0 < n)) (h : colsI n xs = colsI n ys) : xs = ys := by
  apply List.ext_getElem hl
  intro i h1 h2
  have e1 := colsI_gn (n := n) (xs := xs) (i := i) h1
  have e2 := colsI_gn (n := n) (xs := ys) (i := i) h2
  rw [h, e2] at e1
  have g1 : xs.getD i 0 = xs[i] := by simp [h1]
  have g2 : ys.getD i 0 = ys[i] := by simp [h2]
  rw [← g1, ← g2]
  unfold colI at e1
  rcases hx i h1 with a | a <;> rcases hy i h1 with b | b
  · omega
  · rw [if_pos a, if_neg (by omega)] at e1; omega
  · rw [if_pos b, if_neg (by omega)] at e1; omega
  · rw [if_neg (by omega), if_neg (by omega)] at e1; omega
/-- the reference's search answers as Best -/
theorem ref_best (hd : Dat l w) {ol : List Nat} {sum : Pr} (h : Opt l w ol sum) : srcW l w w.length 0 0 = ((metP l w (resI l ol)).1, sum.b) ∧ refW l w w.length 0 0 (srcW l w w.length 0 0) = resI l ol := by
  have hol := h.asg.len
  have hrl : (resI l ol).length = w.length := by rw [resI_len, hol]
  have hrok : ∀ q, q < w.length → okAt l w (resI l ol) q := fun q hq => (res_okAt hd h hq).1
  obtain ⟨c, hm, hcw, hkey, hb0, hb1⟩ := met_res hd h
  obtain ⟨c1, k1, m1, m2, m3, m4⟩ := met_src (l := l) hrl hrok
  have hmr : metP l w (resI l ol) = ((c1 : Int), k1) := by unfold metP; rw [if_pos hrl, m1]
  rw [hm] at hmr
  obtain ⟨hc1, hk1⟩ := Prod.mk.inj hmr
  obtain ⟨r1, r2, r3, r4⟩ := ref_ok (l := l) (w := w) w.length 0 0 _ rfl
  generalize hR : refW l w w.length 0 0 (srcW l w w.length 0 0) = R at r1 r2 r3 r4 ⊢
  have hRok : ∀ q, q < w.length → okAt l w R q := fun q hq => of_plan (l := l) r1 w.length 0 0 (by omega) (used_zero R) (by rw [List.drop_zero]; exact r2) q (Nat.zero_le _) hq
  obtain ⟨c2, k2, n1, n2, _, _⟩ := met_src (l := l) r1 hRok
  rw [r3] at n2
  rw [n2] at m4
  obtain ⟨p1, p2, p3⟩ := met_le hd h hkey hcw hb0 hb1 r1 n1
  have hcc : c2 = c := by unfold wle at m4; simp only at m4; omega
  have hkk : k2 = sum.b := by
    have := p2 hcc
    unfold wle at m4; simp only at m4; omega
  refine ⟨by rw [n2, hm, hcc, hkk], ?_⟩
  have hl1 := p3 hcc hkk
  have hl2 := r4 (resI l ol) hrl m3 (by rw [m2, n2, hcc, hkk, ← hc1, ← hk1])
  rw [colsF_zero, colsF_zero, cols_res hd h] at hl2
  have heq := lex_anti _ _ (by rw [colsI_len, hol, r1]) hl1 hl2
  refine cols_inj (n := l.length) (by rw [r1, hrl]) (fun i hi => ?_) (fun i hi => ?_) (by rw [← heq, cols_res hd h])
  · rcases hRok i (by omega) with a | a
    · exact .inl a
    · have := bad_iff.1 a; exact .inr ⟨this.1, this.2.1⟩
  · rcases hrok i (by omega) with a | a
    · exact .inl a
    · have := bad_iff.1 a; exact .inr ⟨this.1, this.2.1⟩
end
/-- law 4 in plain Lean -/
theorem best_same (l : List Pipe) (w : List Wish) : bestF l w = some (rbestF l w) := by
  obtain ⟨res, cst, h1, h2, h3⟩ := best_any l w
  rw [h1]
  unfold rbestF
  by_cases hck : checkP l w = 0
  · obtain ⟨ol, sum, hopt, rfl, rfl⟩ := h3 hck
    obtain ⟨a1, a2⟩ := ref_best (checkP_ok hck) hopt
    rw [if_pos hck, a2, a1]
  · obtain ⟨rfl, rfl⟩ := h2 hck
    rw [if_neg hck]
end Iv
end Go.Proofs.Yteiopfefmphhaaa
