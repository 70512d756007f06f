import Derived.Test.YthcbcdjkfefnlaaGw
import Derived.Test.YthcbcdjkfefnlaaSc
import Derived.Test.YthcbcdjkfefnlaaSa
/- The walks of scan, spare, room, Open and keys in general. -/
set_option linter.unusedSimpArgs false
set_option linter.unusedVariables false
set_option linter.unnecessarySimpa false
set_option autoImplicit false
set_option linter.unusedVariables false
namespace Go.Proofs.Ythcbcdjkfefnlaa
open Go.Gv
open Go.RowKit
open Iv
namespace Iv
/-- what an entry says, and where it stands -/
structure En where
  key : Nat
  num : Nat
  val : List Nat
  bk : Nat
  sl : Nat
  deriving Inhabited, DecidableEq
structure He where
  en : En
  r : Option Nat
  c : Nat
  deriving Inhabited
abbrev HV (h : He) : Value := .agg #[natV h.en.key, .int .u32 (h.en.num : Int), .slice (rowA h.r) h.en.val.length h.c, natV h.en.bk, natV h.en.sl]
def He.row (h : He) : HL := .row 5 1 h.r h.en.val.length h.c (h.en.val.map u8V)
structure EnOk (x : En) : Prop where
  key : x.key ≤ 999
  num : x.num < 4294967296
  len : x.val.length ≤ 16
  val : ∀ z ∈ x.val, z < 256
  bk : x.bk < 64
  sl : x.sl < 10
abbrev plain (m : List (ME He)) : List En := m.map fun x => x.v.en
def pget (k : Nat) : List En → Option En
  | [] => none
  | y :: l => if k = y.key then some y else pget k l
def pput (x : En) : List En → List En
  | [] => [x]
  | y :: l => if x.key = y.key then x :: l else y :: pput x l
structure MSt (m : List (ME He)) (nb : Nat) (T : List HL) : Prop where
  ok : MOk m nb
  key : ∀ x ∈ m, x.key = (x.v.en.key : Int)
  row : ∀ x ∈ m, x.v.row ∈ T
  en : ∀ x ∈ m, EnOk x.v.en
theorem mst_nil (T : List HL) : MSt [] 0 T := ⟨MOk.nil, (fun _ h => by cases h), (fun _ h => by cases h), (fun _ h => by cases h)⟩
theorem pget_m (k : Nat) : ∀ {m : List (ME He)}, (∀ x ∈ m, x.key = (x.v.en.key : Int)) → pget k (plain m) = (mget (k : Int) m).map He.en
  | [], _ => rfl
  | y :: l, h => by
    have hy := h y List.mem_cons_self
    have ih := pget_m k (m := l) fun x hx => h x (List.mem_cons_of_mem _ hx)
    simp only [plain, List.map_cons, pget, mget, hy] at ih ⊢
    by_cases e : k = y.v.en.key
    · rw [if_pos e, if_pos (by rw [e])]; rfl
    · rw [if_neg e, if_neg (by omega)]; exact ih
theorem pput_m (x : He) (nb : Nat) : ∀ {m : List (ME He)}, (∀ y ∈ m, y.key = (y.v.en.key : Int)) → plain (mput (x.en.key : Int) x nb m) = pput x.en (plain m)
  | [], _ => rfl
  | y :: l, h => by
    have hy := h y List.mem_cons_self
    have ih := pput_m x nb (m := l) fun z hz => h z (List.mem_cons_of_mem _ hz)
    simp only [plain, List.map_cons, pput, mput, hy] at ih ⊢
    by_cases e : x.en.key = y.v.en.key
    · rw [if_pos e, if_pos (by rw [e])]; rfl
    · rw [if_neg e, if_neg (by omega), List.map_cons, ih]
theorem MSt.put {m : List (ME He)} {nb : Nat} {T : List HL} (h : MSt m nb T) (x : He) (hx : EnOk x.en) {T' : List HL} (hT : ∀ y ∈ T, y ∈ T') (hr : x.row ∈ T') : MSt (mput (x.en.key : Int) x nb m) (mnb (x.en.key : Int) m nb) T' := by
  refine ⟨h.ok.put _ _, fun y hy => ?_, fun y hy => ?_, fun y hy => ?_⟩ <;> rcases mput_mem hy with ⟨e1, e2⟩ | hy
  · rw [e1, e2]
  · exact h.key y hy
  · rw [e1]; exact hr
  · exact hT _ (h.row y hy)
  · rw [e1]; exact hx
  · exact h.en y hy
theorem MSt.mono {m : List (ME He)} {nb : Nat} {T T' : List HL} (h : MSt m nb T) (hT : ∀ y ∈ T, y ∈ T') : MSt m nb T' := ⟨h.ok, h.key, fun y hy => hT _ (h.row y hy), h.en⟩
theorem MSt.get {m : List (ME He)} {nb : Nat} {T : List HL} (h : MSt m nb T) {k : Nat} {x : He} (hg : mget (k : Int) m = some x) : EnOk x.en ∧ x.row ∈ T ∧ x.en.key = k ∧ pget k (plain m) = some x.en := by
  obtain ⟨b, hb⟩ := mget_mem hg
  have := h.key _ hb
  simp only at this
  exact ⟨h.en _ hb, h.row _ hb, by omega, by rw [pget_m k h.key, hg]; rfl⟩
theorem MSt.none {m : List (ME He)} {nb : Nat} {T : List HL} (h : MSt m nb T) {k : Nat} (hg : mget (k : Int) m = none) : pget k (plain m) = none := by
  rw [pget_m k h.key, hg]; rfl
/-! ### scan -/
def slotB (b : List Nat) (bk sl : Nat) : List Nat := (b.drop (bk * 256 + sl * 24)).take 24
def enB (b : List Nat) (bk sl : Nat) : En := ⟨keyP (slotB b bk sl), numTo (slotB b bk sl) 4, valP (slotB b bk sl), bk, sl⟩
def newer (x : En) (P : List En) : Bool := match pget x.key P with | some o => decide (o.num < x.num) | none => true
def scStep (b : List Nat) (but : Int) (bk : Nat) (s : Nat × List En) (sl : Nat) : Nat × List En :=
  if badP (slotB b bk sl) = true ∨ (bk : Int) = but then s else (max s.1 (enB b bk sl).num, if newer (enB b bk sl) s.2 then pput (enB b bk sl) s.2 else s.2)
def scBlkTo (b : List Nat) (but : Int) (bk : Nat) (s : Nat × List En) (k : Nat) : Nat × List En := (List.range k).foldl (scStep b but bk) s
def scTo (b : List Nat) (but : Int) (num : Nat) (k : Nat) : Nat × List En := (List.range k).foldl (fun s bk => scBlkTo b but bk s 10) (num, [])
def scanP (b : List Nat) (but : Int) (num : Nat) : Nat × List En := scTo b but num (b.length / 256)
theorem scBlk_succ (b : List Nat) (but : Int) (bk : Nat) (s : Nat × List En) (k : Nat) : scBlkTo b but bk s (k + 1) = scStep b but bk (scBlkTo b but bk s k) k := by unfold scBlkTo; rw [List.range_succ, List.foldl_append]; rfl
theorem scTo_succ (b : List Nat) (but : Int) (num k : Nat) : scTo b but num (k + 1) = scBlkTo b but k (scTo b but num k) 10 := by unfold scTo; rw [List.range_succ, List.foldl_append, List.foldl_cons, List.foldl_nil]
theorem slot_len {b : List Nat} {bk sl : Nat} (h : bk * 256 + sl * 24 + 24 ≤ b.length) : (slotB b bk sl).length = 24 := by unfold slotB; simp; omega
theorem slot_lt {b : List Nat} (hb : ∀ z ∈ b, z < 256) (bk sl : Nat) : ∀ z ∈ slotB b bk sl, z < 256 := fun z hz => hb z (List.mem_of_mem_drop (List.mem_of_mem_take hz))
theorem enB_ok {b : List Nat} (hb : ∀ z ∈ b, z < 256) {bk sl : Nat} (h : bk * 256 + sl * 24 + 24 ≤ b.length) (hbk : bk < 64) (hsl : sl < 10) (hg : badP (slotB b bk sl) = false) : EnOk (enB b bk sl) := by
  have hl := slot_lt hb bk sl
  unfold badP at hg
  simp only [Bool.or_eq_false_iff, decide_eq_false_iff_not] at hg
  have hk : keyP (slotB b bk sl) ≤ 999 := by omega
  have hn : numTo (slotB b bk sl) 4 < 4294967296 := num_lt4 hl (Nat.le_refl 4)
  refine ⟨hk, hn, ?_, fun z hz => hl z (List.mem_of_mem_drop (List.mem_of_mem_take hz)), hbk, hsl⟩
  simp only [enB, valP, List.length_take]
  omega
theorem scStep_skip {b : List Nat} {but : Int} {bk sl : Nat} {s : Nat × List En} (h : badP (slotB b bk sl) = true ∨ (bk : Int) = but) : scStep b but bk s sl = s := by unfold scStep; rw [if_pos h]
theorem scStep_go {b : List Nat} {but : Int} {bk sl : Nat} {s : Nat × List En} (h : badP (slotB b bk sl) = false) (h2 : (bk : Int) ≠ but) : scStep b but bk s sl = (max s.1 (enB b bk sl).num, if newer (enB b bk sl) s.2 then pput (enB b bk sl) s.2 else s.2) := by
  unfold scStep; rw [if_neg (by rw [h]; simp [h2])]
/-! ### spare -/
def coversAt (b : List Nat) (P : List En) (bk sl : Nat) : Bool := badP (slotB b bk sl) || !newer (enB b bk sl) P
def spareP (b : List Nat) (P : List En) (bk : Nat) : Bool := (List.range 10).all (coversAt b P bk)
end Iv
theorem unpack_good (zs : List Nat) (hz : ∀ z ∈ zs, z < 256) (hlen : zs.length = 24) (a : Option Addr) (ca : Nat) (hca : 24 ≤ ca) (w0 : World) (hsl : OldSl w0 [] a 24 1 (zs.map u8V)) (hb : badP zs = false) : Sp Try.prog 66 [.slice a 24 ca] w0 [] (fun v L => ∃ (r : Option Nat) (c : Nat), v = .tuple #[.agg #[natV (keyP zs), .int .u32 (numTo zs 4 : Nat), .slice (rowA r) (valP zs).length c], .bool true] ∧ L = [.row 5 1 r (valP zs).length c ((valP zs).map u8V)]) := by
  refine (unpack_ok zs hz hlen a ca hca w0 hsl).mono ?_
  rintro v L (⟨h, _⟩ | ⟨_, h⟩)
  · rw [hb] at h; cases h
  · exact h
section
variable {P : Program} {n : Nat} {e : Env} {w0 : World} {S : List Nat} {l : List HL} {dst : Option Nat} {ty : TypeId} {pos : String} {aft : Array Edge} {gd : Option (Nat × Bool)}
theorem rd_maxN {x y : Operand} {k : IntKind} {p q : Nat} {ats : Array TypeId} (hx : e.ev x = some (.int k (p : Int))) (hy : e.ev y = some (.int k (q : Int))) :
    Rd P n e w0 S l ⟨dst, .call { callee := .builtin .max, args := #[x, y], argTypes := ats }, ty, pos, aft, gd⟩ (.int k ((max p q : Nat) : Int)) := by
  have h := rd_max2 (P := P) (n := n) (e := e) (w0 := w0) (S := S) (l := l) (dst := dst) (ty := ty) (pos := pos) (aft := aft) (gd := gd) (ats := ats) hx hy
  rw [show ((max p q : Nat) : Int) = max (p : Int) (q : Int) by omega]
  exact h
end
end Go.Proofs.Ythcbcdjkfefnlaa

set_option autoImplicit false
set_option linter.unusedVariables false
namespace Go.Proofs.Ythcbcdjkfefnlaa
open Go.Gv
open Go.RowKit
open Iv
set_option maxRecDepth 100000 in
set_option maxHeartbeats 4000000 in
theorem scan_ok (f : Fl) (hf : f.Ok) (bs bf : Nat) (rb : Option Nat) (cb : Nat) (rp : Option Nat) (cp : Nat) (id num : Nat) (mv : Option Nat) (free but : Int) (S : List Nat) (w0 : World) (hown : Own w0 S w0 (.blk bs [.bool true, .pointer (some ⟨bf, 0, none⟩), natV id, .map mv, .int .u32 (num : Nat), .int .i64 free] 81 :: FlH bf rb cb rp cp f)) (hnum : num < 4294967296) : Sp Try.prog 39 [.pointer (some ⟨bs, 0, none⟩), .int .i64 but] w0 S (fun v L => ∃ (bm : Nat) (m : List (ME He)) (nb : Nat) (T : List HL) (num2 : Nat), v = .tuple #[] ∧ MSt m nb T ∧ (num2, plain m) = scanP f.b but num ∧ num2 < 4294967296 ∧ L = (.blk bs [.bool true, .pointer (some ⟨bf, 0, none⟩), natV id, .map (some bm), .int .u32 ((num2 : Nat) : Int), .int .i64 free] 81 :: .obj bm (mapO HV m nb) :: (FlH bf rb cb rp cp f ++ T))) := by
  have hbl := hf.hi
  have hbl0 := hf.lo
  have hblm := hf.len
  obtain ⟨gb, rfl, hcb⟩ := row_some (hown.holds (.row 5 1 rb f.b.length cb (f.b.map u8V)) (by simp)) (by omega)
  refine spec_enter Try.func39 rfl Try.ntmps39 rfl hown ?_
  simp only [argEnv]
  refine gc_seq ?_
  refine gc_region ?_
  refine gl_op (op_rd rfl (rd_move rfl) ?_)
  refine gl_op (op_makeMapV rfl (fun b12 => ?_))
  refine gl_op (op_rd rfl (rd_nilCheck rfl) ?_)
  refine gl_op (op_rd rfl (rd_fieldAddr rfl (fa_81_3 _)) ?_)
  first | refine gl_op (op_store 1 ty_78 rfl rfl rfl rfl rfl (by first | rfl | (simp only [List.set_cons_succ, List.set_cons_zero]; exact rfl)) (by first | rfl | (simp only [List.set_cons_succ, List.set_cons_zero]; exact rfl)) ?_) | refine gl_op (op_store 2 ty_78 rfl rfl rfl rfl rfl (by first | rfl | (simp only [List.set_cons_succ, List.set_cons_zero]; exact rfl)) (by first | rfl | (simp only [List.set_cons_succ, List.set_cons_zero]; exact rfl)) ?_) | refine gl_op (op_storeRow 3 ty_78 rfl rfl rfl rfl (by simp; omega) (by first | rfl | (simp only [List.set_cons_succ, List.set_cons_zero]; exact rfl)) ?_) | refine gl_op (op_storeRow 4 ty_78 rfl rfl rfl rfl (by simp; omega) (by first | rfl | (simp only [List.set_cons_succ, List.set_cons_zero]; exact rfl)) ?_)
  refine gl_nil ?_
  refine gx_then ?_
  refine gc_seq ?_
  refine gc_region ?_
  refine gl_op (op_rd rfl (rd_move rfl) ?_)
  refine gl_op (op_rd rfl (rd_nilCheck rfl) ?_)
  refine gl_op (op_rd rfl (rd_fieldAddr rfl (fa_81_1 _)) ?_)
  refine gl_op (op_rd rfl (rd_load Try.underlying25 rfl rfl (by first | exact ld_blk 1 rfl rfl | exact ld_blk 2 rfl rfl | exact ld_old (by assumption) (by simp) | exact ld_cells (by assumption) (by simp) rfl)) ?_)
  refine gl_op (op_call rfl (vf := []) (vc := []) rfl rfl Try.call33 (fun w1 ho => Blocks_q f hf bf (some gb) cb rp cp w1 (ho.blkCells 2 rfl)) ?_)
  rintro _ _ ⟨rfl, rfl⟩
  refine gl_op (op_rd rfl (rd_move rfl) ?_)
  refine gl_nil ?_
  refine gx_then ?_
  refine gc_block ?_
  refine gc_loopF (ι := Nat × Nat × List (ME He) × Nat × List HL) [(0, _), (1, _), (19, _)] [_, _, _] (fun j => j.1 ≤ f.b.length / 256 ∧ MSt j.2.2.1 j.2.2.2.1 j.2.2.2.2 ∧ (j.2.1, plain j.2.2.1) = scTo f.b but num j.1 ∧ j.2.1 < 4294967296) (fun j Fr0 => ((20, natV j.1) :: Fr0)) (fun j Fr0 => (.blk bs [.bool true, .pointer (some ⟨bf, 0, none⟩), natV id, .map (some b12), .int .u32 ((j.2.1 : Nat) : Int), .int .i64 free] 81 :: .obj b12 (mapO HV j.2.2.1 j.2.2.2.1) :: (Fr0 ++ j.2.2.2.2))) (fun j => f.b.length / 256 - j.1) (0, num, [], 0, []) (⟨Nat.zero_le _, mst_nil _, rfl, hnum⟩) ⟨rfl, rfl, rfl, rfl, trivial⟩ ⟨[1, 0, 2, 3, 4], by decide, rfl⟩ ?_
  rintro ⟨j, nu, m, nb, T⟩ ⟨hj, hms, hsc, hnu⟩
  simp only at hj hms hsc hnu ⊢
  refine gc_seq ?_
  refine gc_region ?_
  refine gl_op (op_rd rfl (rd_lss rfl rfl) (gk_dec (fun h21 => ?_) (fun h21 => ?_)))
  · skip
    obtain ⟨s0, hs0⟩ : ∃ s0, scTo f.b but num j = s0 := ⟨_, rfl⟩
    rw [hs0] at hsc
    have hsc0 := hs0.symm
    refine gl_nil ?_
    refine gx_then ?_
    refine gc_seq ?_
    refine gc_cond_t rfl ?_
    refine gc_skip ?_
    refine gx_then ?_
    refine gc_seq ?_
    refine gc_block ?_
    refine gc_seq ?_
    refine gc_region ?_
    refine gl_op (op_rd rfl (rd_move rfl) ?_)
    refine gl_op (op_rd rfl (rd_assign rfl) ?_)
    refine gl_nil ?_
    refine gx_then ?_
    refine gc_seq ?_
    refine gc_region ?_
    refine gl_op (op_rd rfl (rd_move rfl) ?_)
    refine gl_nil ?_
    refine gx_then ?_
    refine gc_block ?_
    refine gc_loopF (ι := Nat × Nat × List (ME He) × Nat × List HL) [(0, _), (1, _), (4, _), (19, _), (20, _)] [_, _, _] (fun i => i.1 ≤ 10 ∧ MSt i.2.2.1 i.2.2.2.1 i.2.2.2.2 ∧ (i.2.1, plain i.2.2.1) = scBlkTo f.b but j s0 i.1 ∧ i.2.1 < 4294967296) (fun i Fr0 => ((23, natV i.1) :: Fr0)) (fun i Fr0 => (.blk bs [.bool true, .pointer (some ⟨bf, 0, none⟩), natV id, .map (some b12), .int .u32 ((i.2.1 : Nat) : Int), .int .i64 free] 81 :: .obj b12 (mapO HV i.2.2.1 i.2.2.2.1) :: (Fr0 ++ i.2.2.2.2))) (fun i => 10 - i.1) (0, nu, m, nb, T) (⟨Nat.zero_le _, hms, hsc, hnu⟩) ⟨rfl, rfl, rfl, rfl, rfl, rfl, trivial⟩ (sub_tail (A := [_, _, _, _, _]) (B := [_, _, _, _, _]) (T := T) [0, 1, 2, 3, 4] 5 (by decide) (by decide) rfl rfl) ?_
    rintro ⟨q, nu, m, nb, T⟩ ⟨hq, hms, hsc, hnu⟩
    simp only at hq hms hsc hnu ⊢
    refine gc_seq ?_
    refine gc_region ?_
    refine gl_op (op_rd rfl (rd_lss rfl rfl) (gk_dec (fun h24 => ?_) (fun h24 => ?_)))
    · skip
      obtain ⟨zs, hzs⟩ : ∃ zs, slotB f.b j q = zs := ⟨_, rfl⟩
      have hzl : zs.length = 24 := by rw [← hzs]; exact slot_len (by omega)
      have hz8 : ∀ z ∈ zs, z < 256 := by rw [← hzs]; exact slot_lt hf.bs j q
      rcases hbd : badP zs with _ | _
      · skip
        refine gl_nil ?_
        refine gx_then ?_
        refine gc_seq ?_
        refine gc_cond_t rfl ?_
        refine gc_skip ?_
        refine gx_then ?_
        refine gc_seq ?_
        refine gc_block ?_
        refine gc_seq ?_
        refine gc_region ?_
        refine gl_op (op_rd rfl (rd_move rfl) ?_)
        refine gl_op (op_rd rfl (rd_assign rfl) ?_)
        refine gl_nil ?_
        refine gx_then ?_
        refine gc_seq ?_
        refine gc_region ?_
        refine gl_op (op_rd rfl (rd_move rfl) ?_)
        refine gl_op (op_rd rfl (rd_move rfl) ?_)
        refine gl_op (op_rd rfl (rd_build rfl (fun _ => bd_94_0_1 _ _)) ?_)
        refine gl_op (op_alloc ty_94 rfl rfl (fun b6 => ?_))
        first | refine gl_op (op_storeAgg 0 ty_94 rfl rfl rfl rfl rfl rfl (by first | rfl | (simp only [List.set_cons_succ, List.set_cons_zero]; exact rfl)) ?_) | refine gl_op (op_storeAgg 1 ty_94 rfl rfl rfl rfl rfl rfl (by first | rfl | (simp only [List.set_cons_succ, List.set_cons_zero]; exact rfl)) ?_) | refine gl_op (op_storeAgg 3 ty_94 rfl rfl rfl rfl rfl rfl (by first | rfl | (simp only [List.set_cons_succ, List.set_cons_zero]; exact rfl)) ?_) | refine gl_op (op_storeRowAgg 4 ty_94 rfl rfl rfl rfl rfl (by simp; omega) (by first | rfl | (simp only [List.set_cons_succ, List.set_cons_zero]; exact rfl)) ?_) | refine gl_op (op_storeRowAgg 5 ty_94 rfl rfl rfl rfl rfl (by simp; omega) (by first | rfl | (simp only [List.set_cons_succ, List.set_cons_zero]; exact rfl)) ?_)
        refine gl_nil ?_
        refine gx_then ?_
        refine gc_seq ?_
        refine gc_drawP [0, 1, 2, 3, 4, 5] false 12 rfl ?_
        refine ga_first 0 #[true, false, false, false, false, false, false, false, false, false, false, false, false] rfl rfl rfl rfl (by kernel_rfl) rfl ⟨[0, 1, 2, 3, 4, 5], by decide, rfl⟩ (qt_rd (rd_move rfl)) ?_
        refine ga_first 1 #[true, true, false, false, false, false, false, false, false, false, false, false, false] rfl rfl rfl rfl (by kernel_rfl) rfl ⟨[0, 1, 2, 3, 4, 5], by decide, rfl⟩ (qt_rd (rd_nilCheck rfl)) ?_
        refine ga_first 2 #[true, true, true, false, false, false, false, false, false, false, false, false, false] rfl rfl rfl rfl (by kernel_rfl) rfl ⟨[0, 1, 2, 3, 4, 5], by decide, rfl⟩ (qt_rd (rd_fieldAddr rfl (fa_81_1 _))) ?_
        refine ga_first 3 #[true, true, true, true, false, false, false, false, false, false, false, false, false] rfl rfl rfl rfl (by kernel_rfl) rfl ⟨[0, 1, 2, 3, 4, 5], by decide, rfl⟩ (qt_rd (rd_load Try.underlying25 rfl rfl (by first | exact ld_blk 0 rfl rfl | exact ld_blk 1 rfl rfl | exact ld_blk 3 rfl rfl | exact ld_old (by assumption) (by simp) | exact ld_cells (by assumption) (by simp) rfl))) ?_
        refine ga_first 4 #[true, true, true, true, true, false, false, false, false, false, false, false, false] rfl rfl rfl rfl (by kernel_rfl) rfl ⟨[0, 1, 2, 3, 4, 5], by decide, rfl⟩ (qt_rd (rd_loadAgg Try.underlying94 rfl ty_94 rfl (by first | exact cs_blk 0 (off := 0) (k := 2) rfl rfl | exact cs_blk 1 (off := 0) (k := 2) rfl rfl | exact cs_blk 3 (off := 0) (k := 2) rfl rfl | exact cs_old (by assumption) (by simp)) rfl)) ?_
        refine ga_first 5 #[true, true, true, true, true, true, false, false, false, false, false, false, false] rfl rfl rfl rfl (by kernel_rfl) rfl ⟨[0, 1, 2, 3, 4, 5], by decide, rfl⟩ (qt_call (vf := []) (vc := []) rfl rfl Try.call67 (fun w1 ho => slot_q f hf bf gb cb rp cp w1 (ho.blkCells 3 rfl) hcb j q (by omega)) (by rintro _ _ ⟨h, _⟩; exact h)) ?_
        refine ga_two 6 10 #[true, true, true, true, true, true, true, false, false, false, false, false, false] #[true, true, true, true, true, true, false, false, false, false, true, false, false] rfl rfl rfl rfl (by kernel_rfl) rfl rfl (.inr ⟨[0, 1, 2, 3, 4, 5], by decide, rfl⟩) ?_ ?_
        · skip
          refine (op_call rfl (vf := []) (vc := []) rfl rfl Try.call66 (fun w1 ho => unpack_good zs hz8 hzl (some ⟨gb, j * 256 + q * 24, none⟩) (cb - (j * 256 + q * 24)) (by omega) w1 (by rw [← hzs]; unfold slotB; rw [← part_u8]; exact slPart (ho.rowSl 4 rfl) (j * 256 + q * 24) 24 (by omega)) hbd) ?_)
          rintro _ _ ⟨rx, cx, rfl, rfl⟩
          refine ga_first 7 #[true, true, true, true, true, true, true, true, false, false, false, false, false] rfl rfl rfl rfl (by kernel_rfl) rfl ⟨[1, 2, 3, 4, 5, 6], by decide, rfl⟩ (qt_rd (rd_move rfl)) ?_
          refine ga_first 8 #[true, true, true, true, true, true, true, true, true, false, false, false, false] rfl rfl rfl rfl (by kernel_rfl) rfl ⟨[1, 2, 3, 4, 5, 6], by decide, rfl⟩ (qt_rd (rd_extract rfl rfl)) ?_
          refine ga_first 9 #[true, true, true, true, true, true, true, true, true, true, false, false, false] rfl rfl rfl rfl (by kernel_rfl) rfl ⟨[1, 2, 3, 4, 5, 6], by decide, rfl⟩ (qt_rd (rd_extract rfl rfl)) ?_
          refine ga_only 10 #[true, true, true, true, true, true, true, true, true, true, true, false, false] rfl rfl (by kernel_rfl) rfl (.inr ⟨[1, 2, 3, 4, 5, 6], by decide, rfl⟩) (op_alloc ty_92 rfl rfl (fun b7 => ?_))
          first | refine ga_only 11 #[true, true, true, true, true, true, true, true, true, true, true, true, false] rfl rfl (by kernel_rfl) rfl (.inr ⟨[2, 3, 4, 5, 6, 7], by decide, rfl⟩) (op_storeAgg 0 ty_92 rfl rfl rfl rfl rfl rfl (by first | rfl | (simp only [List.set_cons_succ, List.set_cons_zero]; exact rfl)) ?_) | refine ga_only 11 #[true, true, true, true, true, true, true, true, true, true, true, true, false] rfl rfl (by kernel_rfl) rfl (.inr ⟨[2, 3, 4, 5, 6, 7], by decide, rfl⟩) (op_storeAgg 2 ty_92 rfl rfl rfl rfl rfl rfl (by first | rfl | (simp only [List.set_cons_succ, List.set_cons_zero]; exact rfl)) ?_) | refine ga_only 11 #[true, true, true, true, true, true, true, true, true, true, true, true, false] rfl rfl (by kernel_rfl) rfl (.inr ⟨[2, 3, 4, 5, 6, 7], by decide, rfl⟩) (op_storeAgg 3 ty_92 rfl rfl rfl rfl rfl rfl (by first | rfl | (simp only [List.set_cons_succ, List.set_cons_zero]; exact rfl)) ?_) | refine ga_only 11 #[true, true, true, true, true, true, true, true, true, true, true, true, false] rfl rfl (by kernel_rfl) rfl (.inr ⟨[2, 3, 4, 5, 6, 7], by decide, rfl⟩) (op_storeAgg 5 ty_92 rfl rfl rfl rfl rfl rfl (by first | rfl | (simp only [List.set_cons_succ, List.set_cons_zero]; exact rfl)) ?_) | refine ga_only 11 #[true, true, true, true, true, true, true, true, true, true, true, true, false] rfl rfl (by kernel_rfl) rfl (.inr ⟨[2, 3, 4, 5, 6, 7], by decide, rfl⟩) (op_storeRowAgg 1 ty_92 rfl rfl rfl rfl rfl (by simp; omega) (by first | rfl | (simp only [List.set_cons_succ, List.set_cons_zero]; exact rfl)) ?_) | refine ga_only 11 #[true, true, true, true, true, true, true, true, true, true, true, true, false] rfl rfl (by kernel_rfl) rfl (.inr ⟨[2, 3, 4, 5, 6, 7], by decide, rfl⟩) (op_storeRowAgg 6 ty_92 rfl rfl rfl rfl rfl (by simp; omega) (by first | rfl | (simp only [List.set_cons_succ, List.set_cons_zero]; exact rfl)) ?_) | refine ga_only 11 #[true, true, true, true, true, true, true, true, true, true, true, true, false] rfl rfl (by kernel_rfl) rfl (.inr ⟨[2, 3, 4, 5, 6, 7], by decide, rfl⟩) (op_storeRowAgg 7 ty_92 rfl rfl rfl rfl rfl (by simp; omega) (by first | rfl | (simp only [List.set_cons_succ, List.set_cons_zero]; exact rfl)) ?_)
          refine ga_only 12 #[true, true, true, true, true, true, true, true, true, true, true, true, true] rfl rfl (by kernel_rfl) rfl (.inr ⟨[2, 3, 4, 5, 6, 7], by decide, rfl⟩) (op_rd rfl (rd_assign rfl) ?_)
          refine ga_end (by kernel_rfl) (.inl (by kernel_rfl)) ?_
          refine gx_then ?_
          refine gc_seq ?_
          refine gc_seq ?_
          refine gc_region ?_
          refine gl_op (op_rd rfl (rd_move rfl) ?_)
          refine gl_op (op_rd rfl (rd_not rfl) ?_)
          refine gl_op (op_rd rfl (rd_move rfl) ?_)
          refine gl_yes rfl rfl (op_rd rfl (rd_move rfl) ?_)
          refine gl_yes rfl rfl (op_rd rfl (rd_move rfl) ?_)
          refine gl_yes rfl rfl (op_rd rfl (rd_eql rfl rfl) (gk_dec (fun h44 => ?_) (fun h44 => ?_)))
          · skip
            refine gl_op (op_rd rfl (rd_pick_f rfl rfl) ?_)
            refine gl_nil ?_
            refine gx_then ?_
            refine gc_cond_t rfl ?_
            refine gc_exit ?_
            refine gx_then_exit ?_
            refine gx_block_exit ?_
            refine gx_then ?_
            refine gc_region ?_
            refine gl_op (op_rd rfl (by first | exact rd_addN (b := 1) rfl rfl (by omega) | exact rd_add rfl rfl (by omega) (by omega)) ?_)
            refine gl_op (op_rd rfl (rd_move rfl) ?_)
            refine gl_nil ?_
            refine gx_then ?_
            exact gx_cut ((q + 1, nu, m, nb, T)) ⟨⟨by simp only; omega, hms, by simp only; rw [scBlk_succ, ← hsc, scStep_skip (.inr h44)], hnu⟩, by simp only; omega⟩ ⟨rfl, rfl, rfl, rfl, rfl, rfl, trivial⟩ (sub_tail (A := [_, _, _, _, _]) (B := [_, _, _, _, _, _, _, _]) (T := T) [3, 4, 5, 6, 7] 8 (by decide) (by decide) rfl rfl)
          · skip
            have hn4 : numTo zs 4 < 4294967296 := num_lt4 hz8 (Nat.le_refl 4)
            have heo : EnOk ⟨keyP zs, numTo zs 4, valP zs, j, q⟩ := by have := enB_ok hf.bs (bk := j) (sl := q) (by omega) (by omega) (by omega) (by rw [hzs]; exact hbd); unfold enB at this; rw [hzs] at this; exact this
            refine gl_op (op_rd rfl (rd_pick_f rfl rfl) ?_)
            refine gl_nil ?_
            refine gx_then ?_
            refine gc_cond_f rfl ?_
            refine gc_skip ?_
            refine gx_then ?_
            refine gc_seq ?_
            refine gc_drawP [0, 1, 2, 3, 4, 5, 6, 7] false 10 rfl ?_
            refine ga_first 0 #[true, false, false, false, false, false, false, false, false, false, false] rfl rfl rfl rfl (by kernel_rfl) rfl ⟨[0, 1, 2, 3, 4, 5, 6, 7], by decide, rfl⟩ (qt_rd (rd_move rfl)) ?_
            refine ga_first 1 #[true, true, false, false, false, false, false, false, false, false, false] rfl rfl rfl rfl (by kernel_rfl) rfl ⟨[0, 1, 2, 3, 4, 5, 6, 7], by decide, rfl⟩ (qt_rd (rd_move rfl)) ?_
            refine ga_first 2 #[true, true, true, false, false, false, false, false, false, false, false] rfl rfl rfl rfl (by kernel_rfl) rfl ⟨[0, 1, 2, 3, 4, 5, 6, 7], by decide, rfl⟩ (qt_rd (rd_nilCheck rfl)) ?_
            refine ga_first 3 #[true, true, true, true, false, false, false, false, false, false, false] rfl rfl rfl rfl (by kernel_rfl) rfl ⟨[0, 1, 2, 3, 4, 5, 6, 7], by decide, rfl⟩ (qt_rd (rd_fieldAddr rfl (fa_81_4 _))) ?_
            refine ga_first 4 #[true, true, true, true, true, false, false, false, false, false, false] rfl rfl rfl rfl (by kernel_rfl) rfl ⟨[0, 1, 2, 3, 4, 5, 6, 7], by decide, rfl⟩ (qt_rd (rd_load Try.underlying79 rfl rfl (by first | exact ld_blk 0 rfl rfl | exact ld_blk 2 rfl rfl | exact ld_blk 3 rfl rfl | exact ld_blk 5 rfl rfl | exact ld_old (by assumption) (by simp) | exact ld_cells (by assumption) (by simp) rfl))) ?_
            refine ga_first 5 #[true, true, true, true, true, true, false, false, false, false, false] rfl rfl rfl rfl (by kernel_rfl) rfl ⟨[0, 1, 2, 3, 4, 5, 6, 7], by decide, rfl⟩ (qt_rd (rd_fieldAddr rfl (fa_92_1 _))) ?_
            refine ga_first 6 #[true, true, true, true, true, true, true, false, false, false, false] rfl rfl rfl rfl (by kernel_rfl) rfl ⟨[0, 1, 2, 3, 4, 5, 6, 7], by decide, rfl⟩ (qt_rd (rd_load Try.underlying79 rfl rfl (by first | exact ld_blk 0 rfl rfl | exact ld_blk 2 rfl rfl | exact ld_blk 3 rfl rfl | exact ld_blk 5 rfl rfl | exact ld_old (by assumption) (by simp) | exact ld_cells (by assumption) (by simp) rfl))) ?_
            refine ga_first 7 #[true, true, true, true, true, true, true, true, false, false, false] rfl rfl rfl rfl (by kernel_rfl) rfl ⟨[0, 1, 2, 3, 4, 5, 6, 7], by decide, rfl⟩ (qt_rd (rd_maxN rfl rfl)) ?_
            refine ga_only 8 #[true, true, true, true, true, true, true, true, true, false, false] rfl rfl (by kernel_rfl) rfl (.inr ⟨[0, 1, 2, 3, 4, 5, 6, 7], by decide, rfl⟩) (op_rd rfl (rd_nilCheck rfl) ?_)
            refine ga_first 9 #[true, true, true, true, true, true, true, true, true, true, false] rfl rfl rfl rfl (by kernel_rfl) rfl ⟨[0, 1, 2, 3, 4, 5, 6, 7], by decide, rfl⟩ (qt_rd (rd_fieldAddr rfl (fa_81_4 _))) ?_
            first | refine ga_only 10 #[true, true, true, true, true, true, true, true, true, true, true] rfl rfl (by kernel_rfl) rfl (.inr ⟨[0, 1, 2, 3, 4, 5, 6, 7], by decide, rfl⟩) (op_store 0 ty_79 rfl rfl rfl rfl rfl (by first | rfl | (simp only [List.set_cons_succ, List.set_cons_zero]; exact rfl)) (by first | rfl | (simp only [List.set_cons_succ, List.set_cons_zero]; exact rfl)) ?_) | refine ga_only 10 #[true, true, true, true, true, true, true, true, true, true, true] rfl rfl (by kernel_rfl) rfl (.inr ⟨[0, 1, 2, 3, 4, 5, 6, 7], by decide, rfl⟩) (op_store 2 ty_79 rfl rfl rfl rfl rfl (by first | rfl | (simp only [List.set_cons_succ, List.set_cons_zero]; exact rfl)) (by first | rfl | (simp only [List.set_cons_succ, List.set_cons_zero]; exact rfl)) ?_) | refine ga_only 10 #[true, true, true, true, true, true, true, true, true, true, true] rfl rfl (by kernel_rfl) rfl (.inr ⟨[0, 1, 2, 3, 4, 5, 6, 7], by decide, rfl⟩) (op_store 3 ty_79 rfl rfl rfl rfl rfl (by first | rfl | (simp only [List.set_cons_succ, List.set_cons_zero]; exact rfl)) (by first | rfl | (simp only [List.set_cons_succ, List.set_cons_zero]; exact rfl)) ?_) | refine ga_only 10 #[true, true, true, true, true, true, true, true, true, true, true] rfl rfl (by kernel_rfl) rfl (.inr ⟨[0, 1, 2, 3, 4, 5, 6, 7], by decide, rfl⟩) (op_store 5 ty_79 rfl rfl rfl rfl rfl (by first | rfl | (simp only [List.set_cons_succ, List.set_cons_zero]; exact rfl)) (by first | rfl | (simp only [List.set_cons_succ, List.set_cons_zero]; exact rfl)) ?_) | refine ga_only 10 #[true, true, true, true, true, true, true, true, true, true, true] rfl rfl (by kernel_rfl) rfl (.inr ⟨[0, 1, 2, 3, 4, 5, 6, 7], by decide, rfl⟩) (op_storeRow 1 ty_79 rfl rfl rfl rfl (by simp; omega) (by first | rfl | (simp only [List.set_cons_succ, List.set_cons_zero]; exact rfl)) ?_) | refine ga_only 10 #[true, true, true, true, true, true, true, true, true, true, true] rfl rfl (by kernel_rfl) rfl (.inr ⟨[0, 1, 2, 3, 4, 5, 6, 7], by decide, rfl⟩) (op_storeRow 6 ty_79 rfl rfl rfl rfl (by simp; omega) (by first | rfl | (simp only [List.set_cons_succ, List.set_cons_zero]; exact rfl)) ?_) | refine ga_only 10 #[true, true, true, true, true, true, true, true, true, true, true] rfl rfl (by kernel_rfl) rfl (.inr ⟨[0, 1, 2, 3, 4, 5, 6, 7], by decide, rfl⟩) (op_storeRow 7 ty_79 rfl rfl rfl rfl (by simp; omega) (by first | rfl | (simp only [List.set_cons_succ, List.set_cons_zero]; exact rfl)) ?_)
            refine ga_end (by kernel_rfl) (.inl (by kernel_rfl)) ?_
            refine gx_then ?_
            refine gc_seq ?_
            rcases hg : mget ((keyP zs : Nat) : Int) m with _ | o
            · skip
              refine gc_drawP [0, 1, 2, 3, 4, 5, 6, 7] false 12 rfl ?_
              refine ga_first 0 #[true, false, false, false, false, false, false, false, false, false, false, false, false] rfl rfl rfl rfl (by kernel_rfl) rfl ⟨[0, 1, 2, 3, 4, 5, 6, 7], by decide, rfl⟩ (qt_rd (rd_move rfl)) ?_
              refine ga_first 1 #[true, true, false, false, false, false, false, false, false, false, false, false, false] rfl rfl rfl rfl (by kernel_rfl) rfl ⟨[0, 1, 2, 3, 4, 5, 6, 7], by decide, rfl⟩ (qt_rd (rd_nilCheck rfl)) ?_
              refine ga_first 2 #[true, true, true, false, false, false, false, false, false, false, false, false, false] rfl rfl rfl rfl (by kernel_rfl) rfl ⟨[0, 1, 2, 3, 4, 5, 6, 7], by decide, rfl⟩ (qt_rd (rd_fieldAddr rfl (fa_81_3 _))) ?_
              refine ga_first 3 #[true, true, true, true, false, false, false, false, false, false, false, false, false] rfl rfl rfl rfl (by kernel_rfl) rfl ⟨[0, 1, 2, 3, 4, 5, 6, 7], by decide, rfl⟩ (qt_rd (rd_load Try.underlying78 rfl rfl (by first | exact ld_blk 0 rfl rfl | exact ld_blk 2 rfl rfl | exact ld_blk 3 rfl rfl | exact ld_blk 5 rfl rfl | exact ld_old (by assumption) (by simp) | exact ld_cells (by assumption) (by simp) rfl))) ?_
              refine ga_first 4 #[true, true, true, true, true, false, false, false, false, false, false, false, false] rfl rfl rfl rfl (by kernel_rfl) rfl ⟨[0, 1, 2, 3, 4, 5, 6, 7], by decide, rfl⟩ (qt_rd (rd_fieldAddr rfl (fa_92_0 _))) ?_
              refine ga_first 5 #[true, true, true, true, true, true, false, false, false, false, false, false, false] rfl rfl rfl rfl (by kernel_rfl) rfl ⟨[0, 1, 2, 3, 4, 5, 6, 7], by decide, rfl⟩ (qt_rd (rd_load Try.underlying3 rfl rfl (by first | exact ld_blk 0 rfl rfl | exact ld_blk 2 rfl rfl | exact ld_blk 3 rfl rfl | exact ld_blk 5 rfl rfl | exact ld_rowN 1 rfl (get_nats (by omega)) | exact ld_rowN 6 rfl (get_nats (by omega)) | exact ld_rowN 7 rfl (get_nats (by omega)) | exact ld_slN (by assumption) (get_nats (by omega)) | exact ld_rowN 1 rfl (get_ints (by omega)) | exact ld_rowN 6 rfl (get_ints (by omega)) | exact ld_rowN 7 rfl (get_ints (by omega)) | exact ld_slN (by assumption) (get_ints (by omega)) | exact ld_old (by assumption) (by simp) | exact ld_cells (by assumption) (by simp) rfl))) ?_
              refine ga_first 6 #[true, true, true, true, true, true, true, false, false, false, false, false, false] rfl rfl rfl rfl (by kernel_rfl) rfl ⟨[0, 1, 2, 3, 4, 5, 6, 7], by decide, rfl⟩ (qt_rd (rd_lookupMOk 4 HV rfl Try.underlying78 Try.underlying3 ty_96 rfl rfl)) ?_
              refine ga_first 7 #[true, true, true, true, true, true, true, true, false, false, false, false, false] rfl rfl rfl rfl (by kernel_rfl) rfl ⟨[0, 1, 2, 3, 4, 5, 6, 7], by decide, rfl⟩ (qt_rd (rd_move rfl)) ?_
              refine ga_first 8 #[true, true, true, true, true, true, true, true, true, false, false, false, false] rfl rfl rfl rfl (by kernel_rfl) rfl ⟨[0, 1, 2, 3, 4, 5, 6, 7], by decide, rfl⟩ (qt_rd (rd_extract rfl rfl)) ?_
              refine ga_first 9 #[true, true, true, true, true, true, true, true, true, true, false, false, false] rfl rfl rfl rfl (by kernel_rfl) rfl ⟨[0, 1, 2, 3, 4, 5, 6, 7], by decide, rfl⟩ (qt_rd (rd_extract rfl rfl)) ?_
              refine ga_only 10 #[true, true, true, true, true, true, true, true, true, true, true, false, false] rfl rfl (by kernel_rfl) rfl (.inr ⟨[0, 1, 2, 3, 4, 5, 6, 7], by decide, rfl⟩) (op_alloc ty_96 rfl rfl (fun b9 => ?_))
              rw [hg, Option.map_none, Option.getD_none, Option.isSome_none]
              first | refine ga_only 11 #[true, true, true, true, true, true, true, true, true, true, true, true, false] rfl rfl (by kernel_rfl) rfl (.inr ⟨[1, 2, 3, 4, 5, 6, 7, 8], by decide, rfl⟩) (op_storeAgg 0 ty_96 rfl rfl rfl rfl rfl rfl (by first | rfl | (simp only [List.set_cons_succ, List.set_cons_zero]; exact rfl)) ?_) | refine ga_only 11 #[true, true, true, true, true, true, true, true, true, true, true, true, false] rfl rfl (by kernel_rfl) rfl (.inr ⟨[1, 2, 3, 4, 5, 6, 7, 8], by decide, rfl⟩) (op_storeAgg 1 ty_96 rfl rfl rfl rfl rfl rfl (by first | rfl | (simp only [List.set_cons_succ, List.set_cons_zero]; exact rfl)) ?_) | refine ga_only 11 #[true, true, true, true, true, true, true, true, true, true, true, true, false] rfl rfl (by kernel_rfl) rfl (.inr ⟨[1, 2, 3, 4, 5, 6, 7, 8], by decide, rfl⟩) (op_storeAgg 3 ty_96 rfl rfl rfl rfl rfl rfl (by first | rfl | (simp only [List.set_cons_succ, List.set_cons_zero]; exact rfl)) ?_) | refine ga_only 11 #[true, true, true, true, true, true, true, true, true, true, true, true, false] rfl rfl (by kernel_rfl) rfl (.inr ⟨[1, 2, 3, 4, 5, 6, 7, 8], by decide, rfl⟩) (op_storeAgg 4 ty_96 rfl rfl rfl rfl rfl rfl (by first | rfl | (simp only [List.set_cons_succ, List.set_cons_zero]; exact rfl)) ?_) | refine ga_only 11 #[true, true, true, true, true, true, true, true, true, true, true, true, false] rfl rfl (by kernel_rfl) rfl (.inr ⟨[1, 2, 3, 4, 5, 6, 7, 8], by decide, rfl⟩) (op_storeAgg 6 ty_96 rfl rfl rfl rfl rfl rfl (by first | rfl | (simp only [List.set_cons_succ, List.set_cons_zero]; exact rfl)) ?_) | refine ga_only 11 #[true, true, true, true, true, true, true, true, true, true, true, true, false] rfl rfl (by kernel_rfl) rfl (.inr ⟨[1, 2, 3, 4, 5, 6, 7, 8], by decide, rfl⟩) (op_storeRowAgg 2 ty_96 rfl rfl rfl rfl rfl (by simp; omega) (by first | rfl | (simp only [List.set_cons_succ, List.set_cons_zero]; exact rfl)) ?_) | refine ga_only 11 #[true, true, true, true, true, true, true, true, true, true, true, true, false] rfl rfl (by kernel_rfl) rfl (.inr ⟨[1, 2, 3, 4, 5, 6, 7, 8], by decide, rfl⟩) (op_storeRowAgg 7 ty_96 rfl rfl rfl rfl rfl (by simp; omega) (by first | rfl | (simp only [List.set_cons_succ, List.set_cons_zero]; exact rfl)) ?_) | refine ga_only 11 #[true, true, true, true, true, true, true, true, true, true, true, true, false] rfl rfl (by kernel_rfl) rfl (.inr ⟨[1, 2, 3, 4, 5, 6, 7, 8], by decide, rfl⟩) (op_storeRowAgg 8 ty_96 rfl rfl rfl rfl rfl (by simp; omega) (by first | rfl | (simp only [List.set_cons_succ, List.set_cons_zero]; exact rfl)) ?_)
              refine ga_only 12 #[true, true, true, true, true, true, true, true, true, true, true, true, true] rfl rfl (by kernel_rfl) rfl (.inr ⟨[1, 2, 3, 4, 5, 6, 7, 8], by decide, rfl⟩) (op_rd rfl (rd_assign rfl) ?_)
              refine ga_end (by kernel_rfl) (.inl (by kernel_rfl)) ?_
              refine gx_then ?_
              refine gc_seq ?_
              refine gc_region ?_
              refine gl_op (op_rd rfl (rd_move rfl) ?_)
              refine gl_op (op_rd rfl (rd_not rfl) ?_)
              refine gl_op (op_rd rfl (rd_move rfl) ?_)
              refine gl_no rfl rfl rfl ?_
              refine gl_no rfl rfl rfl ?_
              refine gl_no rfl rfl rfl ?_
              refine gl_no rfl rfl rfl ?_
              refine gl_no rfl rfl rfl ?_
              refine gl_no rfl rfl rfl ?_
              refine gl_op (op_rd rfl (rd_pick_t rfl rfl) ?_)
              refine gl_nil ?_
              refine gx_then ?_
              refine gc_cond_t rfl ?_
              refine gc_drawP [0, 1, 2, 3, 4, 5, 6, 7, 8] false 9 rfl ?_
              refine ga_first 0 #[true, false, false, false, false, false, false, false, false, false] rfl rfl rfl rfl (by kernel_rfl) rfl ⟨[0, 1, 2, 3, 4, 5, 6, 7, 8], by decide, rfl⟩ (qt_rd (rd_move rfl)) ?_
              refine ga_first 1 #[true, true, false, false, false, false, false, false, false, false] rfl rfl rfl rfl (by kernel_rfl) rfl ⟨[0, 1, 2, 3, 4, 5, 6, 7, 8], by decide, rfl⟩ (qt_rd (rd_nilCheck rfl)) ?_
              refine ga_first 2 #[true, true, true, false, false, false, false, false, false, false] rfl rfl rfl rfl (by kernel_rfl) rfl ⟨[0, 1, 2, 3, 4, 5, 6, 7, 8], by decide, rfl⟩ (qt_rd (rd_fieldAddr rfl (fa_81_3 _))) ?_
              refine ga_first 3 #[true, true, true, true, false, false, false, false, false, false] rfl rfl rfl rfl (by kernel_rfl) rfl ⟨[0, 1, 2, 3, 4, 5, 6, 7, 8], by decide, rfl⟩ (qt_rd (rd_load Try.underlying78 rfl rfl (by first | exact ld_blk 0 rfl rfl | exact ld_blk 1 rfl rfl | exact ld_blk 3 rfl rfl | exact ld_blk 4 rfl rfl | exact ld_blk 6 rfl rfl | exact ld_old (by assumption) (by simp) | exact ld_cells (by assumption) (by simp) rfl))) ?_
              refine ga_first 4 #[true, true, true, true, true, false, false, false, false, false] rfl rfl rfl rfl (by kernel_rfl) rfl ⟨[0, 1, 2, 3, 4, 5, 6, 7, 8], by decide, rfl⟩ (qt_rd (rd_fieldAddr rfl (fa_92_0 _))) ?_
              refine ga_first 5 #[true, true, true, true, true, true, false, false, false, false] rfl rfl rfl rfl (by kernel_rfl) rfl ⟨[0, 1, 2, 3, 4, 5, 6, 7, 8], by decide, rfl⟩ (qt_rd (rd_load Try.underlying3 rfl rfl (by first | exact ld_blk 0 rfl rfl | exact ld_blk 1 rfl rfl | exact ld_blk 3 rfl rfl | exact ld_blk 4 rfl rfl | exact ld_blk 6 rfl rfl | exact ld_rowN 2 rfl (get_nats (by omega)) | exact ld_rowN 7 rfl (get_nats (by omega)) | exact ld_rowN 8 rfl (get_nats (by omega)) | exact ld_slN (by assumption) (get_nats (by omega)) | exact ld_rowN 2 rfl (get_ints (by omega)) | exact ld_rowN 7 rfl (get_ints (by omega)) | exact ld_rowN 8 rfl (get_ints (by omega)) | exact ld_slN (by assumption) (get_ints (by omega)) | exact ld_old (by assumption) (by simp) | exact ld_cells (by assumption) (by simp) rfl))) ?_
              refine ga_first 6 #[true, true, true, true, true, true, true, false, false, false] rfl rfl rfl rfl (by kernel_rfl) rfl ⟨[0, 1, 2, 3, 4, 5, 6, 7, 8], by decide, rfl⟩ (qt_rd (rd_loadAgg Try.underlying92 rfl ty_92 rfl (by first | exact cs_blk 0 (off := 0) (k := 3) rfl rfl | exact cs_blk 1 (off := 0) (k := 3) rfl rfl | exact cs_blk 3 (off := 0) (k := 3) rfl rfl | exact cs_blk 4 (off := 0) (k := 3) rfl rfl | exact cs_blk 6 (off := 0) (k := 3) rfl rfl | exact cs_old (by assumption) (by simp)) rfl)) ?_
              refine ga_first 7 #[true, true, true, true, true, true, true, true, false, false] rfl rfl rfl rfl (by kernel_rfl) rfl ⟨[0, 1, 2, 3, 4, 5, 6, 7, 8], by decide, rfl⟩ (qt_rd (rd_loadAgg Try.underlying94 rfl ty_94 rfl (by first | exact cs_blk 0 (off := 0) (k := 2) rfl rfl | exact cs_blk 1 (off := 0) (k := 2) rfl rfl | exact cs_blk 3 (off := 0) (k := 2) rfl rfl | exact cs_blk 4 (off := 0) (k := 2) rfl rfl | exact cs_blk 6 (off := 0) (k := 2) rfl rfl | exact cs_old (by assumption) (by simp)) rfl)) ?_
              refine ga_first 8 #[true, true, true, true, true, true, true, true, true, false] rfl rfl rfl rfl (by kernel_rfl) rfl ⟨[0, 1, 2, 3, 4, 5, 6, 7, 8], by decide, rfl⟩ (qt_rd (rd_build rfl (fun _ => bd_96_0_1 _ _ _ _ _ _ _))) ?_
              refine ga_only 9 #[true, true, true, true, true, true, true, true, true, true] rfl rfl (by kernel_rfl) rfl (.inr ⟨[0, 1, 2, 3, 4, 5, 6, 7, 8], by decide, rfl⟩) (op_mapPutM 5 HV (v := ⟨⟨keyP zs, numTo zs 4, valP zs, j, q⟩, rx, cx⟩) Try.underlying78 Try.underlying3 rfl rfl rfl rfl rfl ?_)
              refine ga_end (by kernel_rfl) (.inl (by kernel_rfl)) ?_
              refine gx_block ?_
              refine gx_then ?_
              refine gc_region ?_
              refine gl_op (op_rd rfl (by first | exact rd_addN (b := 1) rfl rfl (by omega) | exact rd_add rfl rfl (by omega) (by omega)) ?_)
              refine gl_op (op_rd rfl (rd_move rfl) ?_)
              refine gl_nil ?_
              refine gx_then ?_
              have hnw : newer ⟨keyP zs, numTo zs 4, valP zs, j, q⟩ (plain m) = true := by unfold newer; rw [show pget (En.key ⟨keyP zs, numTo zs 4, valP zs, j, q⟩) (plain m) = none from hms.none hg]
              exact gx_cut ((q + 1, max nu (numTo zs 4), mput ((keyP zs : Nat) : Int) ⟨⟨keyP zs, numTo zs 4, valP zs, j, q⟩, rx, cx⟩ nb m, mnb ((keyP zs : Nat) : Int) m nb, He.row ⟨⟨keyP zs, numTo zs 4, valP zs, j, q⟩, rx, cx⟩ :: T)) ⟨⟨by simp only; omega, hms.put ⟨⟨keyP zs, numTo zs 4, valP zs, j, q⟩, rx, cx⟩ heo (fun y hy => List.mem_cons_of_mem _ hy) List.mem_cons_self, by simp only; rw [scBlk_succ, ← hsc, scStep_go (by rw [hzs]; exact hbd) h44]; simp only [enB, hzs]; rw [if_pos hnw, pput_m ⟨⟨keyP zs, numTo zs 4, valP zs, j, q⟩, rx, cx⟩ nb hms.key], Nat.max_lt.2 ⟨hnu, hn4⟩⟩, by simp only; omega⟩ ⟨rfl, rfl, rfl, rfl, rfl, rfl, trivial⟩ (sub_tail (A := [_, _, _, _, _, _]) (B := [_, _, _, _, _, _, _, _, _]) (T := T) [4, 5, 6, 7, 8, 2] 9 (by decide) (by decide) rfl rfl)
            · skip
              refine gc_drawP [0, 1, 2, 3, 4, 5, 6, 7] false 12 rfl ?_
              refine ga_first 0 #[true, false, false, false, false, false, false, false, false, false, false, false, false] rfl rfl rfl rfl (by kernel_rfl) rfl ⟨[0, 1, 2, 3, 4, 5, 6, 7], by decide, rfl⟩ (qt_rd (rd_move rfl)) ?_
              refine ga_first 1 #[true, true, false, false, false, false, false, false, false, false, false, false, false] rfl rfl rfl rfl (by kernel_rfl) rfl ⟨[0, 1, 2, 3, 4, 5, 6, 7], by decide, rfl⟩ (qt_rd (rd_nilCheck rfl)) ?_
              refine ga_first 2 #[true, true, true, false, false, false, false, false, false, false, false, false, false] rfl rfl rfl rfl (by kernel_rfl) rfl ⟨[0, 1, 2, 3, 4, 5, 6, 7], by decide, rfl⟩ (qt_rd (rd_fieldAddr rfl (fa_81_3 _))) ?_
              refine ga_first 3 #[true, true, true, true, false, false, false, false, false, false, false, false, false] rfl rfl rfl rfl (by kernel_rfl) rfl ⟨[0, 1, 2, 3, 4, 5, 6, 7], by decide, rfl⟩ (qt_rd (rd_load Try.underlying78 rfl rfl (by first | exact ld_blk 0 rfl rfl | exact ld_blk 2 rfl rfl | exact ld_blk 3 rfl rfl | exact ld_blk 5 rfl rfl | exact ld_old (by assumption) (by simp) | exact ld_cells (by assumption) (by simp) rfl))) ?_
              refine ga_first 4 #[true, true, true, true, true, false, false, false, false, false, false, false, false] rfl rfl rfl rfl (by kernel_rfl) rfl ⟨[0, 1, 2, 3, 4, 5, 6, 7], by decide, rfl⟩ (qt_rd (rd_fieldAddr rfl (fa_92_0 _))) ?_
              refine ga_first 5 #[true, true, true, true, true, true, false, false, false, false, false, false, false] rfl rfl rfl rfl (by kernel_rfl) rfl ⟨[0, 1, 2, 3, 4, 5, 6, 7], by decide, rfl⟩ (qt_rd (rd_load Try.underlying3 rfl rfl (by first | exact ld_blk 0 rfl rfl | exact ld_blk 2 rfl rfl | exact ld_blk 3 rfl rfl | exact ld_blk 5 rfl rfl | exact ld_rowN 1 rfl (get_nats (by omega)) | exact ld_rowN 6 rfl (get_nats (by omega)) | exact ld_rowN 7 rfl (get_nats (by omega)) | exact ld_slN (by assumption) (get_nats (by omega)) | exact ld_rowN 1 rfl (get_ints (by omega)) | exact ld_rowN 6 rfl (get_ints (by omega)) | exact ld_rowN 7 rfl (get_ints (by omega)) | exact ld_slN (by assumption) (get_ints (by omega)) | exact ld_old (by assumption) (by simp) | exact ld_cells (by assumption) (by simp) rfl))) ?_
              refine ga_first 6 #[true, true, true, true, true, true, true, false, false, false, false, false, false] rfl rfl rfl rfl (by kernel_rfl) rfl ⟨[0, 1, 2, 3, 4, 5, 6, 7], by decide, rfl⟩ (qt_rd (rd_lookupMOk 4 HV rfl Try.underlying78 Try.underlying3 ty_96 rfl rfl)) ?_
              refine ga_first 7 #[true, true, true, true, true, true, true, true, false, false, false, false, false] rfl rfl rfl rfl (by kernel_rfl) rfl ⟨[0, 1, 2, 3, 4, 5, 6, 7], by decide, rfl⟩ (qt_rd (rd_move rfl)) ?_
              refine ga_first 8 #[true, true, true, true, true, true, true, true, true, false, false, false, false] rfl rfl rfl rfl (by kernel_rfl) rfl ⟨[0, 1, 2, 3, 4, 5, 6, 7], by decide, rfl⟩ (qt_rd (rd_extract rfl rfl)) ?_
              refine ga_first 9 #[true, true, true, true, true, true, true, true, true, true, false, false, false] rfl rfl rfl rfl (by kernel_rfl) rfl ⟨[0, 1, 2, 3, 4, 5, 6, 7], by decide, rfl⟩ (qt_rd (rd_extract rfl rfl)) ?_
              refine ga_only 10 #[true, true, true, true, true, true, true, true, true, true, true, false, false] rfl rfl (by kernel_rfl) rfl (.inr ⟨[0, 1, 2, 3, 4, 5, 6, 7], by decide, rfl⟩) (op_alloc ty_96 rfl rfl (fun b9 => ?_))
              rw [hg, Option.map_some, Option.getD_some, Option.isSome_some]
              first | refine ga_only 11 #[true, true, true, true, true, true, true, true, true, true, true, true, false] rfl rfl (by kernel_rfl) rfl (.inr ⟨[1, 2, 3, 4, 5, 6, 7, 8], by decide, rfl⟩) (op_storeAgg 0 ty_96 rfl rfl rfl rfl rfl rfl (by first | rfl | (simp only [List.set_cons_succ, List.set_cons_zero]; exact rfl)) ?_) | refine ga_only 11 #[true, true, true, true, true, true, true, true, true, true, true, true, false] rfl rfl (by kernel_rfl) rfl (.inr ⟨[1, 2, 3, 4, 5, 6, 7, 8], by decide, rfl⟩) (op_storeAgg 1 ty_96 rfl rfl rfl rfl rfl rfl (by first | rfl | (simp only [List.set_cons_succ, List.set_cons_zero]; exact rfl)) ?_) | refine ga_only 11 #[true, true, true, true, true, true, true, true, true, true, true, true, false] rfl rfl (by kernel_rfl) rfl (.inr ⟨[1, 2, 3, 4, 5, 6, 7, 8], by decide, rfl⟩) (op_storeAgg 3 ty_96 rfl rfl rfl rfl rfl rfl (by first | rfl | (simp only [List.set_cons_succ, List.set_cons_zero]; exact rfl)) ?_) | refine ga_only 11 #[true, true, true, true, true, true, true, true, true, true, true, true, false] rfl rfl (by kernel_rfl) rfl (.inr ⟨[1, 2, 3, 4, 5, 6, 7, 8], by decide, rfl⟩) (op_storeAgg 4 ty_96 rfl rfl rfl rfl rfl rfl (by first | rfl | (simp only [List.set_cons_succ, List.set_cons_zero]; exact rfl)) ?_) | refine ga_only 11 #[true, true, true, true, true, true, true, true, true, true, true, true, false] rfl rfl (by kernel_rfl) rfl (.inr ⟨[1, 2, 3, 4, 5, 6, 7, 8], by decide, rfl⟩) (op_storeAgg 6 ty_96 rfl rfl rfl rfl rfl rfl (by first | rfl | (simp only [List.set_cons_succ, List.set_cons_zero]; exact rfl)) ?_) | refine ga_only 11 #[true, true, true, true, true, true, true, true, true, true, true, true, false] rfl rfl (by kernel_rfl) rfl (.inr ⟨[1, 2, 3, 4, 5, 6, 7, 8], by decide, rfl⟩) (op_storeRowAgg 2 ty_96 rfl rfl rfl rfl rfl (by simp; omega) (by first | rfl | (simp only [List.set_cons_succ, List.set_cons_zero]; exact rfl)) ?_) | refine ga_only 11 #[true, true, true, true, true, true, true, true, true, true, true, true, false] rfl rfl (by kernel_rfl) rfl (.inr ⟨[1, 2, 3, 4, 5, 6, 7, 8], by decide, rfl⟩) (op_storeRowAgg 7 ty_96 rfl rfl rfl rfl rfl (by simp; omega) (by first | rfl | (simp only [List.set_cons_succ, List.set_cons_zero]; exact rfl)) ?_) | refine ga_only 11 #[true, true, true, true, true, true, true, true, true, true, true, true, false] rfl rfl (by kernel_rfl) rfl (.inr ⟨[1, 2, 3, 4, 5, 6, 7, 8], by decide, rfl⟩) (op_storeRowAgg 8 ty_96 rfl rfl rfl rfl rfl (by simp; omega) (by first | rfl | (simp only [List.set_cons_succ, List.set_cons_zero]; exact rfl)) ?_)
              refine ga_only 12 #[true, true, true, true, true, true, true, true, true, true, true, true, true] rfl rfl (by kernel_rfl) rfl (.inr ⟨[1, 2, 3, 4, 5, 6, 7, 8], by decide, rfl⟩) (op_rd rfl (rd_assign rfl) ?_)
              refine ga_end (by kernel_rfl) (.inl (by kernel_rfl)) ?_
              refine gx_then ?_
              refine gc_seq ?_
              refine gc_region ?_
              refine gl_op (op_rd rfl (rd_move rfl) ?_)
              refine gl_op (op_rd rfl (rd_not rfl) ?_)
              refine gl_op (op_rd rfl (rd_move rfl) ?_)
              refine gl_yes rfl rfl (op_rd rfl (rd_fieldAddr rfl (fa_96_0 _)) ?_)
              refine gl_yes rfl rfl (op_rd rfl (rd_fieldAddr rfl (fa_92_1 _)) ?_)
              refine gl_yes rfl rfl (op_rd rfl (rd_load Try.underlying79 rfl rfl (by first | exact ld_blk 0 rfl rfl | exact ld_blk 1 rfl rfl | exact ld_blk 3 rfl rfl | exact ld_blk 4 rfl rfl | exact ld_blk 6 rfl rfl | exact ld_old (by assumption) (by simp) | exact ld_cells (by assumption) (by simp) rfl)) ?_)
              refine gl_yes rfl rfl (op_rd rfl (rd_fieldAddr rfl (fa_92_1 _)) ?_)
              refine gl_yes rfl rfl (op_rd rfl (rd_load Try.underlying79 rfl rfl (by first | exact ld_blk 0 rfl rfl | exact ld_blk 1 rfl rfl | exact ld_blk 3 rfl rfl | exact ld_blk 4 rfl rfl | exact ld_blk 6 rfl rfl | exact ld_old (by assumption) (by simp) | exact ld_cells (by assumption) (by simp) rfl)) ?_)
              refine gl_yes rfl rfl (op_rd rfl (rd_lss rfl rfl) (gk_dec (fun h74 => ?_) (fun h74 => ?_)))
              · skip
                refine gl_op (op_rd rfl (rd_pick_f rfl rfl) ?_)
                refine gl_nil ?_
                refine gx_then ?_
                refine gc_cond_t rfl ?_
                refine gc_drawP [0, 1, 2, 3, 4, 5, 6, 7, 8] false 9 rfl ?_
                refine ga_first 0 #[true, false, false, false, false, false, false, false, false, false] rfl rfl rfl rfl (by kernel_rfl) rfl ⟨[0, 1, 2, 3, 4, 5, 6, 7, 8], by decide, rfl⟩ (qt_rd (rd_move rfl)) ?_
                refine ga_first 1 #[true, true, false, false, false, false, false, false, false, false] rfl rfl rfl rfl (by kernel_rfl) rfl ⟨[0, 1, 2, 3, 4, 5, 6, 7, 8], by decide, rfl⟩ (qt_rd (rd_nilCheck rfl)) ?_
                refine ga_first 2 #[true, true, true, false, false, false, false, false, false, false] rfl rfl rfl rfl (by kernel_rfl) rfl ⟨[0, 1, 2, 3, 4, 5, 6, 7, 8], by decide, rfl⟩ (qt_rd (rd_fieldAddr rfl (fa_81_3 _))) ?_
                refine ga_first 3 #[true, true, true, true, false, false, false, false, false, false] rfl rfl rfl rfl (by kernel_rfl) rfl ⟨[0, 1, 2, 3, 4, 5, 6, 7, 8], by decide, rfl⟩ (qt_rd (rd_load Try.underlying78 rfl rfl (by first | exact ld_blk 0 rfl rfl | exact ld_blk 1 rfl rfl | exact ld_blk 3 rfl rfl | exact ld_blk 4 rfl rfl | exact ld_blk 6 rfl rfl | exact ld_old (by assumption) (by simp) | exact ld_cells (by assumption) (by simp) rfl))) ?_
                refine ga_first 4 #[true, true, true, true, true, false, false, false, false, false] rfl rfl rfl rfl (by kernel_rfl) rfl ⟨[0, 1, 2, 3, 4, 5, 6, 7, 8], by decide, rfl⟩ (qt_rd (rd_fieldAddr rfl (fa_92_0 _))) ?_
                refine ga_first 5 #[true, true, true, true, true, true, false, false, false, false] rfl rfl rfl rfl (by kernel_rfl) rfl ⟨[0, 1, 2, 3, 4, 5, 6, 7, 8], by decide, rfl⟩ (qt_rd (rd_load Try.underlying3 rfl rfl (by first | exact ld_blk 0 rfl rfl | exact ld_blk 1 rfl rfl | exact ld_blk 3 rfl rfl | exact ld_blk 4 rfl rfl | exact ld_blk 6 rfl rfl | exact ld_rowN 2 rfl (get_nats (by omega)) | exact ld_rowN 7 rfl (get_nats (by omega)) | exact ld_rowN 8 rfl (get_nats (by omega)) | exact ld_slN (by assumption) (get_nats (by omega)) | exact ld_rowN 2 rfl (get_ints (by omega)) | exact ld_rowN 7 rfl (get_ints (by omega)) | exact ld_rowN 8 rfl (get_ints (by omega)) | exact ld_slN (by assumption) (get_ints (by omega)) | exact ld_old (by assumption) (by simp) | exact ld_cells (by assumption) (by simp) rfl))) ?_
                refine ga_first 6 #[true, true, true, true, true, true, true, false, false, false] rfl rfl rfl rfl (by kernel_rfl) rfl ⟨[0, 1, 2, 3, 4, 5, 6, 7, 8], by decide, rfl⟩ (qt_rd (rd_loadAgg Try.underlying92 rfl ty_92 rfl (by first | exact cs_blk 0 (off := 0) (k := 3) rfl rfl | exact cs_blk 1 (off := 0) (k := 3) rfl rfl | exact cs_blk 3 (off := 0) (k := 3) rfl rfl | exact cs_blk 4 (off := 0) (k := 3) rfl rfl | exact cs_blk 6 (off := 0) (k := 3) rfl rfl | exact cs_old (by assumption) (by simp)) rfl)) ?_
                refine ga_first 7 #[true, true, true, true, true, true, true, true, false, false] rfl rfl rfl rfl (by kernel_rfl) rfl ⟨[0, 1, 2, 3, 4, 5, 6, 7, 8], by decide, rfl⟩ (qt_rd (rd_loadAgg Try.underlying94 rfl ty_94 rfl (by first | exact cs_blk 0 (off := 0) (k := 2) rfl rfl | exact cs_blk 1 (off := 0) (k := 2) rfl rfl | exact cs_blk 3 (off := 0) (k := 2) rfl rfl | exact cs_blk 4 (off := 0) (k := 2) rfl rfl | exact cs_blk 6 (off := 0) (k := 2) rfl rfl | exact cs_old (by assumption) (by simp)) rfl)) ?_
                refine ga_first 8 #[true, true, true, true, true, true, true, true, true, false] rfl rfl rfl rfl (by kernel_rfl) rfl ⟨[0, 1, 2, 3, 4, 5, 6, 7, 8], by decide, rfl⟩ (qt_rd (rd_build rfl (fun _ => bd_96_0_1 _ _ _ _ _ _ _))) ?_
                refine ga_only 9 #[true, true, true, true, true, true, true, true, true, true] rfl rfl (by kernel_rfl) rfl (.inr ⟨[0, 1, 2, 3, 4, 5, 6, 7, 8], by decide, rfl⟩) (op_mapPutM 5 HV (v := ⟨⟨keyP zs, numTo zs 4, valP zs, j, q⟩, rx, cx⟩) Try.underlying78 Try.underlying3 rfl rfl rfl rfl rfl ?_)
                refine ga_end (by kernel_rfl) (.inl (by kernel_rfl)) ?_
                refine gx_block ?_
                refine gx_then ?_
                refine gc_region ?_
                refine gl_op (op_rd rfl (by first | exact rd_addN (b := 1) rfl rfl (by omega) | exact rd_add rfl rfl (by omega) (by omega)) ?_)
                refine gl_op (op_rd rfl (rd_move rfl) ?_)
                refine gl_nil ?_
                refine gx_then ?_
                have hnw : newer ⟨keyP zs, numTo zs 4, valP zs, j, q⟩ (plain m) = true := by unfold newer; rw [show pget (En.key ⟨keyP zs, numTo zs 4, valP zs, j, q⟩) (plain m) = some o.en from (hms.get hg).2.2.2]; exact decide_eq_true (by simp only; omega)
                exact gx_cut ((q + 1, max nu (numTo zs 4), mput ((keyP zs : Nat) : Int) ⟨⟨keyP zs, numTo zs 4, valP zs, j, q⟩, rx, cx⟩ nb m, mnb ((keyP zs : Nat) : Int) m nb, He.row ⟨⟨keyP zs, numTo zs 4, valP zs, j, q⟩, rx, cx⟩ :: T)) ⟨⟨by simp only; omega, hms.put ⟨⟨keyP zs, numTo zs 4, valP zs, j, q⟩, rx, cx⟩ heo (fun y hy => List.mem_cons_of_mem _ hy) List.mem_cons_self, by simp only; rw [scBlk_succ, ← hsc, scStep_go (by rw [hzs]; exact hbd) h44]; simp only [enB, hzs]; rw [if_pos hnw, pput_m ⟨⟨keyP zs, numTo zs 4, valP zs, j, q⟩, rx, cx⟩ nb hms.key], Nat.max_lt.2 ⟨hnu, hn4⟩⟩, by simp only; omega⟩ ⟨rfl, rfl, rfl, rfl, rfl, rfl, trivial⟩ (sub_tail (A := [_, _, _, _, _, _]) (B := [_, _, _, _, _, _, _, _, _]) (T := T) [4, 5, 6, 7, 8, 2] 9 (by decide) (by decide) rfl rfl)
              · skip
                refine gl_op (op_rd rfl (rd_pick_f rfl rfl) ?_)
                refine gl_nil ?_
                refine gx_then ?_
                refine gc_cond_f rfl ?_
                refine gc_skip ?_
                refine gx_block ?_
                refine gx_then ?_
                refine gc_region ?_
                refine gl_op (op_rd rfl (by first | exact rd_addN (b := 1) rfl rfl (by omega) | exact rd_add rfl rfl (by omega) (by omega)) ?_)
                refine gl_op (op_rd rfl (rd_move rfl) ?_)
                refine gl_nil ?_
                refine gx_then ?_
                have hnw : newer ⟨keyP zs, numTo zs 4, valP zs, j, q⟩ (plain m) = false := by unfold newer; rw [show pget (En.key ⟨keyP zs, numTo zs 4, valP zs, j, q⟩) (plain m) = some o.en from (hms.get hg).2.2.2]; exact decide_eq_false (by simp only; omega)
                exact gx_cut ((q + 1, max nu (numTo zs 4), m, nb, T)) ⟨⟨by simp only; omega, hms, by simp only; rw [scBlk_succ, ← hsc, scStep_go (by rw [hzs]; exact hbd) h44]; simp only [enB, hzs]; rw [hnw]; rfl, Nat.max_lt.2 ⟨hnu, hn4⟩⟩, by simp only; omega⟩ ⟨rfl, rfl, rfl, rfl, rfl, rfl, trivial⟩ (sub_tail (A := [_, _, _, _, _]) (B := [_, _, _, _, _, _, _, _, _]) (T := T) [4, 5, 6, 7, 8] 9 (by decide) (by decide) rfl rfl)
        · skip
          refine (op_alloc ty_92 rfl rfl (fun b7 => ?_))
          refine ga_only 6 #[true, true, true, true, true, true, true, false, false, false, true, false, false] rfl rfl (by kernel_rfl) rfl (.inr ⟨[1, 2, 3, 4, 5, 6], by decide, rfl⟩) (op_call rfl (vf := []) (vc := []) rfl rfl Try.call66 (fun w1 ho => unpack_good zs hz8 hzl (some ⟨gb, j * 256 + q * 24, none⟩) (cb - (j * 256 + q * 24)) (by omega) w1 (by rw [← hzs]; unfold slotB; rw [← part_u8]; exact slPart (ho.rowSl 5 rfl) (j * 256 + q * 24) 24 (by omega)) hbd) ?_)
          rintro _ _ ⟨rx, cx, rfl, rfl⟩
          refine ga_first 7 #[true, true, true, true, true, true, true, true, false, false, true, false, false] rfl rfl rfl rfl (by kernel_rfl) rfl ⟨[2, 3, 4, 5, 6, 7], by decide, rfl⟩ (qt_rd (rd_move rfl)) ?_
          refine ga_first 8 #[true, true, true, true, true, true, true, true, true, false, true, false, false] rfl rfl rfl rfl (by kernel_rfl) rfl ⟨[2, 3, 4, 5, 6, 7], by decide, rfl⟩ (qt_rd (rd_extract rfl rfl)) ?_
          refine ga_first 9 #[true, true, true, true, true, true, true, true, true, true, true, false, false] rfl rfl rfl rfl (by kernel_rfl) rfl ⟨[2, 3, 4, 5, 6, 7], by decide, rfl⟩ (qt_rd (rd_extract rfl rfl)) ?_
          first | refine ga_only 11 #[true, true, true, true, true, true, true, true, true, true, true, true, false] rfl rfl (by kernel_rfl) rfl (.inr ⟨[2, 3, 4, 5, 6, 7], by decide, rfl⟩) (op_storeAgg 1 ty_92 rfl rfl rfl rfl rfl rfl (by first | rfl | (simp only [List.set_cons_succ, List.set_cons_zero]; exact rfl)) ?_) | refine ga_only 11 #[true, true, true, true, true, true, true, true, true, true, true, true, false] rfl rfl (by kernel_rfl) rfl (.inr ⟨[2, 3, 4, 5, 6, 7], by decide, rfl⟩) (op_storeAgg 2 ty_92 rfl rfl rfl rfl rfl rfl (by first | rfl | (simp only [List.set_cons_succ, List.set_cons_zero]; exact rfl)) ?_) | refine ga_only 11 #[true, true, true, true, true, true, true, true, true, true, true, true, false] rfl rfl (by kernel_rfl) rfl (.inr ⟨[2, 3, 4, 5, 6, 7], by decide, rfl⟩) (op_storeAgg 3 ty_92 rfl rfl rfl rfl rfl rfl (by first | rfl | (simp only [List.set_cons_succ, List.set_cons_zero]; exact rfl)) ?_) | refine ga_only 11 #[true, true, true, true, true, true, true, true, true, true, true, true, false] rfl rfl (by kernel_rfl) rfl (.inr ⟨[2, 3, 4, 5, 6, 7], by decide, rfl⟩) (op_storeAgg 5 ty_92 rfl rfl rfl rfl rfl rfl (by first | rfl | (simp only [List.set_cons_succ, List.set_cons_zero]; exact rfl)) ?_) | refine ga_only 11 #[true, true, true, true, true, true, true, true, true, true, true, true, false] rfl rfl (by kernel_rfl) rfl (.inr ⟨[2, 3, 4, 5, 6, 7], by decide, rfl⟩) (op_storeRowAgg 0 ty_92 rfl rfl rfl rfl rfl (by simp; omega) (by first | rfl | (simp only [List.set_cons_succ, List.set_cons_zero]; exact rfl)) ?_) | refine ga_only 11 #[true, true, true, true, true, true, true, true, true, true, true, true, false] rfl rfl (by kernel_rfl) rfl (.inr ⟨[2, 3, 4, 5, 6, 7], by decide, rfl⟩) (op_storeRowAgg 6 ty_92 rfl rfl rfl rfl rfl (by simp; omega) (by first | rfl | (simp only [List.set_cons_succ, List.set_cons_zero]; exact rfl)) ?_) | refine ga_only 11 #[true, true, true, true, true, true, true, true, true, true, true, true, false] rfl rfl (by kernel_rfl) rfl (.inr ⟨[2, 3, 4, 5, 6, 7], by decide, rfl⟩) (op_storeRowAgg 7 ty_92 rfl rfl rfl rfl rfl (by simp; omega) (by first | rfl | (simp only [List.set_cons_succ, List.set_cons_zero]; exact rfl)) ?_)
          refine ga_only 12 #[true, true, true, true, true, true, true, true, true, true, true, true, true] rfl rfl (by kernel_rfl) rfl (.inr ⟨[2, 3, 4, 5, 6, 7], by decide, rfl⟩) (op_rd rfl (rd_assign rfl) ?_)
          refine ga_end (by kernel_rfl) (.inl (by kernel_rfl)) ?_
          refine gx_then ?_
          refine gc_seq ?_
          refine gc_seq ?_
          refine gc_region ?_
          refine gl_op (op_rd rfl (rd_move rfl) ?_)
          refine gl_op (op_rd rfl (rd_not rfl) ?_)
          refine gl_op (op_rd rfl (rd_move rfl) ?_)
          refine gl_yes rfl rfl (op_rd rfl (rd_move rfl) ?_)
          refine gl_yes rfl rfl (op_rd rfl (rd_move rfl) ?_)
          refine gl_yes rfl rfl (op_rd rfl (rd_eql rfl rfl) (gk_dec (fun h44 => ?_) (fun h44 => ?_)))
          · skip
            refine gl_op (op_rd rfl (rd_pick_f rfl rfl) ?_)
            refine gl_nil ?_
            refine gx_then ?_
            refine gc_cond_t rfl ?_
            refine gc_exit ?_
            refine gx_then_exit ?_
            refine gx_block_exit ?_
            refine gx_then ?_
            refine gc_region ?_
            refine gl_op (op_rd rfl (by first | exact rd_addN (b := 1) rfl rfl (by omega) | exact rd_add rfl rfl (by omega) (by omega)) ?_)
            refine gl_op (op_rd rfl (rd_move rfl) ?_)
            refine gl_nil ?_
            refine gx_then ?_
            exact gx_cut ((q + 1, nu, m, nb, T)) ⟨⟨by simp only; omega, hms, by simp only; rw [scBlk_succ, ← hsc, scStep_skip (.inr h44)], hnu⟩, by simp only; omega⟩ ⟨rfl, rfl, rfl, rfl, rfl, rfl, trivial⟩ (sub_tail (A := [_, _, _, _, _]) (B := [_, _, _, _, _, _, _, _]) (T := T) [3, 4, 5, 6, 7] 8 (by decide) (by decide) rfl rfl)
          · skip
            have hn4 : numTo zs 4 < 4294967296 := num_lt4 hz8 (Nat.le_refl 4)
            have heo : EnOk ⟨keyP zs, numTo zs 4, valP zs, j, q⟩ := by have := enB_ok hf.bs (bk := j) (sl := q) (by omega) (by omega) (by omega) (by rw [hzs]; exact hbd); unfold enB at this; rw [hzs] at this; exact this
            refine gl_op (op_rd rfl (rd_pick_f rfl rfl) ?_)
            refine gl_nil ?_
            refine gx_then ?_
            refine gc_cond_f rfl ?_
            refine gc_skip ?_
            refine gx_then ?_
            refine gc_seq ?_
            refine gc_drawP [0, 1, 2, 3, 4, 5, 6, 7] false 10 rfl ?_
            refine ga_first 0 #[true, false, false, false, false, false, false, false, false, false, false] rfl rfl rfl rfl (by kernel_rfl) rfl ⟨[0, 1, 2, 3, 4, 5, 6, 7], by decide, rfl⟩ (qt_rd (rd_move rfl)) ?_
            refine ga_first 1 #[true, true, false, false, false, false, false, false, false, false, false] rfl rfl rfl rfl (by kernel_rfl) rfl ⟨[0, 1, 2, 3, 4, 5, 6, 7], by decide, rfl⟩ (qt_rd (rd_move rfl)) ?_
            refine ga_first 2 #[true, true, true, false, false, false, false, false, false, false, false] rfl rfl rfl rfl (by kernel_rfl) rfl ⟨[0, 1, 2, 3, 4, 5, 6, 7], by decide, rfl⟩ (qt_rd (rd_nilCheck rfl)) ?_
            refine ga_first 3 #[true, true, true, true, false, false, false, false, false, false, false] rfl rfl rfl rfl (by kernel_rfl) rfl ⟨[0, 1, 2, 3, 4, 5, 6, 7], by decide, rfl⟩ (qt_rd (rd_fieldAddr rfl (fa_81_4 _))) ?_
            refine ga_first 4 #[true, true, true, true, true, false, false, false, false, false, false] rfl rfl rfl rfl (by kernel_rfl) rfl ⟨[0, 1, 2, 3, 4, 5, 6, 7], by decide, rfl⟩ (qt_rd (rd_load Try.underlying79 rfl rfl (by first | exact ld_blk 1 rfl rfl | exact ld_blk 2 rfl rfl | exact ld_blk 3 rfl rfl | exact ld_blk 5 rfl rfl | exact ld_old (by assumption) (by simp) | exact ld_cells (by assumption) (by simp) rfl))) ?_
            refine ga_first 5 #[true, true, true, true, true, true, false, false, false, false, false] rfl rfl rfl rfl (by kernel_rfl) rfl ⟨[0, 1, 2, 3, 4, 5, 6, 7], by decide, rfl⟩ (qt_rd (rd_fieldAddr rfl (fa_92_1 _))) ?_
            refine ga_first 6 #[true, true, true, true, true, true, true, false, false, false, false] rfl rfl rfl rfl (by kernel_rfl) rfl ⟨[0, 1, 2, 3, 4, 5, 6, 7], by decide, rfl⟩ (qt_rd (rd_load Try.underlying79 rfl rfl (by first | exact ld_blk 1 rfl rfl | exact ld_blk 2 rfl rfl | exact ld_blk 3 rfl rfl | exact ld_blk 5 rfl rfl | exact ld_old (by assumption) (by simp) | exact ld_cells (by assumption) (by simp) rfl))) ?_
            refine ga_first 7 #[true, true, true, true, true, true, true, true, false, false, false] rfl rfl rfl rfl (by kernel_rfl) rfl ⟨[0, 1, 2, 3, 4, 5, 6, 7], by decide, rfl⟩ (qt_rd (rd_maxN rfl rfl)) ?_
            refine ga_only 8 #[true, true, true, true, true, true, true, true, true, false, false] rfl rfl (by kernel_rfl) rfl (.inr ⟨[0, 1, 2, 3, 4, 5, 6, 7], by decide, rfl⟩) (op_rd rfl (rd_nilCheck rfl) ?_)
            refine ga_first 9 #[true, true, true, true, true, true, true, true, true, true, false] rfl rfl rfl rfl (by kernel_rfl) rfl ⟨[0, 1, 2, 3, 4, 5, 6, 7], by decide, rfl⟩ (qt_rd (rd_fieldAddr rfl (fa_81_4 _))) ?_
            first | refine ga_only 10 #[true, true, true, true, true, true, true, true, true, true, true] rfl rfl (by kernel_rfl) rfl (.inr ⟨[0, 1, 2, 3, 4, 5, 6, 7], by decide, rfl⟩) (op_store 1 ty_79 rfl rfl rfl rfl rfl (by first | rfl | (simp only [List.set_cons_succ, List.set_cons_zero]; exact rfl)) (by first | rfl | (simp only [List.set_cons_succ, List.set_cons_zero]; exact rfl)) ?_) | refine ga_only 10 #[true, true, true, true, true, true, true, true, true, true, true] rfl rfl (by kernel_rfl) rfl (.inr ⟨[0, 1, 2, 3, 4, 5, 6, 7], by decide, rfl⟩) (op_store 2 ty_79 rfl rfl rfl rfl rfl (by first | rfl | (simp only [List.set_cons_succ, List.set_cons_zero]; exact rfl)) (by first | rfl | (simp only [List.set_cons_succ, List.set_cons_zero]; exact rfl)) ?_) | refine ga_only 10 #[true, true, true, true, true, true, true, true, true, true, true] rfl rfl (by kernel_rfl) rfl (.inr ⟨[0, 1, 2, 3, 4, 5, 6, 7], by decide, rfl⟩) (op_store 3 ty_79 rfl rfl rfl rfl rfl (by first | rfl | (simp only [List.set_cons_succ, List.set_cons_zero]; exact rfl)) (by first | rfl | (simp only [List.set_cons_succ, List.set_cons_zero]; exact rfl)) ?_) | refine ga_only 10 #[true, true, true, true, true, true, true, true, true, true, true] rfl rfl (by kernel_rfl) rfl (.inr ⟨[0, 1, 2, 3, 4, 5, 6, 7], by decide, rfl⟩) (op_store 5 ty_79 rfl rfl rfl rfl rfl (by first | rfl | (simp only [List.set_cons_succ, List.set_cons_zero]; exact rfl)) (by first | rfl | (simp only [List.set_cons_succ, List.set_cons_zero]; exact rfl)) ?_) | refine ga_only 10 #[true, true, true, true, true, true, true, true, true, true, true] rfl rfl (by kernel_rfl) rfl (.inr ⟨[0, 1, 2, 3, 4, 5, 6, 7], by decide, rfl⟩) (op_storeRow 0 ty_79 rfl rfl rfl rfl (by simp; omega) (by first | rfl | (simp only [List.set_cons_succ, List.set_cons_zero]; exact rfl)) ?_) | refine ga_only 10 #[true, true, true, true, true, true, true, true, true, true, true] rfl rfl (by kernel_rfl) rfl (.inr ⟨[0, 1, 2, 3, 4, 5, 6, 7], by decide, rfl⟩) (op_storeRow 6 ty_79 rfl rfl rfl rfl (by simp; omega) (by first | rfl | (simp only [List.set_cons_succ, List.set_cons_zero]; exact rfl)) ?_) | refine ga_only 10 #[true, true, true, true, true, true, true, true, true, true, true] rfl rfl (by kernel_rfl) rfl (.inr ⟨[0, 1, 2, 3, 4, 5, 6, 7], by decide, rfl⟩) (op_storeRow 7 ty_79 rfl rfl rfl rfl (by simp; omega) (by first | rfl | (simp only [List.set_cons_succ, List.set_cons_zero]; exact rfl)) ?_)
            refine ga_end (by kernel_rfl) (.inl (by kernel_rfl)) ?_
            refine gx_then ?_
            refine gc_seq ?_
            rcases hg : mget ((keyP zs : Nat) : Int) m with _ | o
            · skip
              refine gc_drawP [0, 1, 2, 3, 4, 5, 6, 7] false 12 rfl ?_
              refine ga_first 0 #[true, false, false, false, false, false, false, false, false, false, false, false, false] rfl rfl rfl rfl (by kernel_rfl) rfl ⟨[0, 1, 2, 3, 4, 5, 6, 7], by decide, rfl⟩ (qt_rd (rd_move rfl)) ?_
              refine ga_first 1 #[true, true, false, false, false, false, false, false, false, false, false, false, false] rfl rfl rfl rfl (by kernel_rfl) rfl ⟨[0, 1, 2, 3, 4, 5, 6, 7], by decide, rfl⟩ (qt_rd (rd_nilCheck rfl)) ?_
              refine ga_first 2 #[true, true, true, false, false, false, false, false, false, false, false, false, false] rfl rfl rfl rfl (by kernel_rfl) rfl ⟨[0, 1, 2, 3, 4, 5, 6, 7], by decide, rfl⟩ (qt_rd (rd_fieldAddr rfl (fa_81_3 _))) ?_
              refine ga_first 3 #[true, true, true, true, false, false, false, false, false, false, false, false, false] rfl rfl rfl rfl (by kernel_rfl) rfl ⟨[0, 1, 2, 3, 4, 5, 6, 7], by decide, rfl⟩ (qt_rd (rd_load Try.underlying78 rfl rfl (by first | exact ld_blk 1 rfl rfl | exact ld_blk 2 rfl rfl | exact ld_blk 3 rfl rfl | exact ld_blk 5 rfl rfl | exact ld_old (by assumption) (by simp) | exact ld_cells (by assumption) (by simp) rfl))) ?_
              refine ga_first 4 #[true, true, true, true, true, false, false, false, false, false, false, false, false] rfl rfl rfl rfl (by kernel_rfl) rfl ⟨[0, 1, 2, 3, 4, 5, 6, 7], by decide, rfl⟩ (qt_rd (rd_fieldAddr rfl (fa_92_0 _))) ?_
              refine ga_first 5 #[true, true, true, true, true, true, false, false, false, false, false, false, false] rfl rfl rfl rfl (by kernel_rfl) rfl ⟨[0, 1, 2, 3, 4, 5, 6, 7], by decide, rfl⟩ (qt_rd (rd_load Try.underlying3 rfl rfl (by first | exact ld_blk 1 rfl rfl | exact ld_blk 2 rfl rfl | exact ld_blk 3 rfl rfl | exact ld_blk 5 rfl rfl | exact ld_rowN 0 rfl (get_nats (by omega)) | exact ld_rowN 6 rfl (get_nats (by omega)) | exact ld_rowN 7 rfl (get_nats (by omega)) | exact ld_slN (by assumption) (get_nats (by omega)) | exact ld_rowN 0 rfl (get_ints (by omega)) | exact ld_rowN 6 rfl (get_ints (by omega)) | exact ld_rowN 7 rfl (get_ints (by omega)) | exact ld_slN (by assumption) (get_ints (by omega)) | exact ld_old (by assumption) (by simp) | exact ld_cells (by assumption) (by simp) rfl))) ?_
              refine ga_first 6 #[true, true, true, true, true, true, true, false, false, false, false, false, false] rfl rfl rfl rfl (by kernel_rfl) rfl ⟨[0, 1, 2, 3, 4, 5, 6, 7], by decide, rfl⟩ (qt_rd (rd_lookupMOk 4 HV rfl Try.underlying78 Try.underlying3 ty_96 rfl rfl)) ?_
              refine ga_first 7 #[true, true, true, true, true, true, true, true, false, false, false, false, false] rfl rfl rfl rfl (by kernel_rfl) rfl ⟨[0, 1, 2, 3, 4, 5, 6, 7], by decide, rfl⟩ (qt_rd (rd_move rfl)) ?_
              refine ga_first 8 #[true, true, true, true, true, true, true, true, true, false, false, false, false] rfl rfl rfl rfl (by kernel_rfl) rfl ⟨[0, 1, 2, 3, 4, 5, 6, 7], by decide, rfl⟩ (qt_rd (rd_extract rfl rfl)) ?_
              refine ga_first 9 #[true, true, true, true, true, true, true, true, true, true, false, false, false] rfl rfl rfl rfl (by kernel_rfl) rfl ⟨[0, 1, 2, 3, 4, 5, 6, 7], by decide, rfl⟩ (qt_rd (rd_extract rfl rfl)) ?_
              refine ga_only 10 #[true, true, true, true, true, true, true, true, true, true, true, false, false] rfl rfl (by kernel_rfl) rfl (.inr ⟨[0, 1, 2, 3, 4, 5, 6, 7], by decide, rfl⟩) (op_alloc ty_96 rfl rfl (fun b9 => ?_))
              rw [hg, Option.map_none, Option.getD_none, Option.isSome_none]
              first | refine ga_only 11 #[true, true, true, true, true, true, true, true, true, true, true, true, false] rfl rfl (by kernel_rfl) rfl (.inr ⟨[1, 2, 3, 4, 5, 6, 7, 8], by decide, rfl⟩) (op_storeAgg 0 ty_96 rfl rfl rfl rfl rfl rfl (by first | rfl | (simp only [List.set_cons_succ, List.set_cons_zero]; exact rfl)) ?_) | refine ga_only 11 #[true, true, true, true, true, true, true, true, true, true, true, true, false] rfl rfl (by kernel_rfl) rfl (.inr ⟨[1, 2, 3, 4, 5, 6, 7, 8], by decide, rfl⟩) (op_storeAgg 2 ty_96 rfl rfl rfl rfl rfl rfl (by first | rfl | (simp only [List.set_cons_succ, List.set_cons_zero]; exact rfl)) ?_) | refine ga_only 11 #[true, true, true, true, true, true, true, true, true, true, true, true, false] rfl rfl (by kernel_rfl) rfl (.inr ⟨[1, 2, 3, 4, 5, 6, 7, 8], by decide, rfl⟩) (op_storeAgg 3 ty_96 rfl rfl rfl rfl rfl rfl (by first | rfl | (simp only [List.set_cons_succ, List.set_cons_zero]; exact rfl)) ?_) | refine ga_only 11 #[true, true, true, true, true, true, true, true, true, true, true, true, false] rfl rfl (by kernel_rfl) rfl (.inr ⟨[1, 2, 3, 4, 5, 6, 7, 8], by decide, rfl⟩) (op_storeAgg 4 ty_96 rfl rfl rfl rfl rfl rfl (by first | rfl | (simp only [List.set_cons_succ, List.set_cons_zero]; exact rfl)) ?_) | refine ga_only 11 #[true, true, true, true, true, true, true, true, true, true, true, true, false] rfl rfl (by kernel_rfl) rfl (.inr ⟨[1, 2, 3, 4, 5, 6, 7, 8], by decide, rfl⟩) (op_storeAgg 6 ty_96 rfl rfl rfl rfl rfl rfl (by first | rfl | (simp only [List.set_cons_succ, List.set_cons_zero]; exact rfl)) ?_) | refine ga_only 11 #[true, true, true, true, true, true, true, true, true, true, true, true, false] rfl rfl (by kernel_rfl) rfl (.inr ⟨[1, 2, 3, 4, 5, 6, 7, 8], by decide, rfl⟩) (op_storeRowAgg 1 ty_96 rfl rfl rfl rfl rfl (by simp; omega) (by first | rfl | (simp only [List.set_cons_succ, List.set_cons_zero]; exact rfl)) ?_) | refine ga_only 11 #[true, true, true, true, true, true, true, true, true, true, true, true, false] rfl rfl (by kernel_rfl) rfl (.inr ⟨[1, 2, 3, 4, 5, 6, 7, 8], by decide, rfl⟩) (op_storeRowAgg 7 ty_96 rfl rfl rfl rfl rfl (by simp; omega) (by first | rfl | (simp only [List.set_cons_succ, List.set_cons_zero]; exact rfl)) ?_) | refine ga_only 11 #[true, true, true, true, true, true, true, true, true, true, true, true, false] rfl rfl (by kernel_rfl) rfl (.inr ⟨[1, 2, 3, 4, 5, 6, 7, 8], by decide, rfl⟩) (op_storeRowAgg 8 ty_96 rfl rfl rfl rfl rfl (by simp; omega) (by first | rfl | (simp only [List.set_cons_succ, List.set_cons_zero]; exact rfl)) ?_)
              refine ga_only 12 #[true, true, true, true, true, true, true, true, true, true, true, true, true] rfl rfl (by kernel_rfl) rfl (.inr ⟨[1, 2, 3, 4, 5, 6, 7, 8], by decide, rfl⟩) (op_rd rfl (rd_assign rfl) ?_)
              refine ga_end (by kernel_rfl) (.inl (by kernel_rfl)) ?_
              refine gx_then ?_
              refine gc_seq ?_
              refine gc_region ?_
              refine gl_op (op_rd rfl (rd_move rfl) ?_)
              refine gl_op (op_rd rfl (rd_not rfl) ?_)
              refine gl_op (op_rd rfl (rd_move rfl) ?_)
              refine gl_no rfl rfl rfl ?_
              refine gl_no rfl rfl rfl ?_
              refine gl_no rfl rfl rfl ?_
              refine gl_no rfl rfl rfl ?_
              refine gl_no rfl rfl rfl ?_
              refine gl_no rfl rfl rfl ?_
              refine gl_op (op_rd rfl (rd_pick_t rfl rfl) ?_)
              refine gl_nil ?_
              refine gx_then ?_
              refine gc_cond_t rfl ?_
              refine gc_drawP [0, 1, 2, 3, 4, 5, 6, 7, 8] false 9 rfl ?_
              refine ga_first 0 #[true, false, false, false, false, false, false, false, false, false] rfl rfl rfl rfl (by kernel_rfl) rfl ⟨[0, 1, 2, 3, 4, 5, 6, 7, 8], by decide, rfl⟩ (qt_rd (rd_move rfl)) ?_
              refine ga_first 1 #[true, true, false, false, false, false, false, false, false, false] rfl rfl rfl rfl (by kernel_rfl) rfl ⟨[0, 1, 2, 3, 4, 5, 6, 7, 8], by decide, rfl⟩ (qt_rd (rd_nilCheck rfl)) ?_
              refine ga_first 2 #[true, true, true, false, false, false, false, false, false, false] rfl rfl rfl rfl (by kernel_rfl) rfl ⟨[0, 1, 2, 3, 4, 5, 6, 7, 8], by decide, rfl⟩ (qt_rd (rd_fieldAddr rfl (fa_81_3 _))) ?_
              refine ga_first 3 #[true, true, true, true, false, false, false, false, false, false] rfl rfl rfl rfl (by kernel_rfl) rfl ⟨[0, 1, 2, 3, 4, 5, 6, 7, 8], by decide, rfl⟩ (qt_rd (rd_load Try.underlying78 rfl rfl (by first | exact ld_blk 0 rfl rfl | exact ld_blk 2 rfl rfl | exact ld_blk 3 rfl rfl | exact ld_blk 4 rfl rfl | exact ld_blk 6 rfl rfl | exact ld_old (by assumption) (by simp) | exact ld_cells (by assumption) (by simp) rfl))) ?_
              refine ga_first 4 #[true, true, true, true, true, false, false, false, false, false] rfl rfl rfl rfl (by kernel_rfl) rfl ⟨[0, 1, 2, 3, 4, 5, 6, 7, 8], by decide, rfl⟩ (qt_rd (rd_fieldAddr rfl (fa_92_0 _))) ?_
              refine ga_first 5 #[true, true, true, true, true, true, false, false, false, false] rfl rfl rfl rfl (by kernel_rfl) rfl ⟨[0, 1, 2, 3, 4, 5, 6, 7, 8], by decide, rfl⟩ (qt_rd (rd_load Try.underlying3 rfl rfl (by first | exact ld_blk 0 rfl rfl | exact ld_blk 2 rfl rfl | exact ld_blk 3 rfl rfl | exact ld_blk 4 rfl rfl | exact ld_blk 6 rfl rfl | exact ld_rowN 1 rfl (get_nats (by omega)) | exact ld_rowN 7 rfl (get_nats (by omega)) | exact ld_rowN 8 rfl (get_nats (by omega)) | exact ld_slN (by assumption) (get_nats (by omega)) | exact ld_rowN 1 rfl (get_ints (by omega)) | exact ld_rowN 7 rfl (get_ints (by omega)) | exact ld_rowN 8 rfl (get_ints (by omega)) | exact ld_slN (by assumption) (get_ints (by omega)) | exact ld_old (by assumption) (by simp) | exact ld_cells (by assumption) (by simp) rfl))) ?_
              refine ga_first 6 #[true, true, true, true, true, true, true, false, false, false] rfl rfl rfl rfl (by kernel_rfl) rfl ⟨[0, 1, 2, 3, 4, 5, 6, 7, 8], by decide, rfl⟩ (qt_rd (rd_loadAgg Try.underlying92 rfl ty_92 rfl (by first | exact cs_blk 0 (off := 0) (k := 3) rfl rfl | exact cs_blk 2 (off := 0) (k := 3) rfl rfl | exact cs_blk 3 (off := 0) (k := 3) rfl rfl | exact cs_blk 4 (off := 0) (k := 3) rfl rfl | exact cs_blk 6 (off := 0) (k := 3) rfl rfl | exact cs_old (by assumption) (by simp)) rfl)) ?_
              refine ga_first 7 #[true, true, true, true, true, true, true, true, false, false] rfl rfl rfl rfl (by kernel_rfl) rfl ⟨[0, 1, 2, 3, 4, 5, 6, 7, 8], by decide, rfl⟩ (qt_rd (rd_loadAgg Try.underlying94 rfl ty_94 rfl (by first | exact cs_blk 0 (off := 0) (k := 2) rfl rfl | exact cs_blk 2 (off := 0) (k := 2) rfl rfl | exact cs_blk 3 (off := 0) (k := 2) rfl rfl | exact cs_blk 4 (off := 0) (k := 2) rfl rfl | exact cs_blk 6 (off := 0) (k := 2) rfl rfl | exact cs_old (by assumption) (by simp)) rfl)) ?_
              refine ga_first 8 #[true, true, true, true, true, true, true, true, true, false] rfl rfl rfl rfl (by kernel_rfl) rfl ⟨[0, 1, 2, 3, 4, 5, 6, 7, 8], by decide, rfl⟩ (qt_rd (rd_build rfl (fun _ => bd_96_0_1 _ _ _ _ _ _ _))) ?_
              refine ga_only 9 #[true, true, true, true, true, true, true, true, true, true] rfl rfl (by kernel_rfl) rfl (.inr ⟨[0, 1, 2, 3, 4, 5, 6, 7, 8], by decide, rfl⟩) (op_mapPutM 5 HV (v := ⟨⟨keyP zs, numTo zs 4, valP zs, j, q⟩, rx, cx⟩) Try.underlying78 Try.underlying3 rfl rfl rfl rfl rfl ?_)
              refine ga_end (by kernel_rfl) (.inl (by kernel_rfl)) ?_
              refine gx_block ?_
              refine gx_then ?_
              refine gc_region ?_
              refine gl_op (op_rd rfl (by first | exact rd_addN (b := 1) rfl rfl (by omega) | exact rd_add rfl rfl (by omega) (by omega)) ?_)
              refine gl_op (op_rd rfl (rd_move rfl) ?_)
              refine gl_nil ?_
              refine gx_then ?_
              have hnw : newer ⟨keyP zs, numTo zs 4, valP zs, j, q⟩ (plain m) = true := by unfold newer; rw [show pget (En.key ⟨keyP zs, numTo zs 4, valP zs, j, q⟩) (plain m) = none from hms.none hg]
              exact gx_cut ((q + 1, max nu (numTo zs 4), mput ((keyP zs : Nat) : Int) ⟨⟨keyP zs, numTo zs 4, valP zs, j, q⟩, rx, cx⟩ nb m, mnb ((keyP zs : Nat) : Int) m nb, He.row ⟨⟨keyP zs, numTo zs 4, valP zs, j, q⟩, rx, cx⟩ :: T)) ⟨⟨by simp only; omega, hms.put ⟨⟨keyP zs, numTo zs 4, valP zs, j, q⟩, rx, cx⟩ heo (fun y hy => List.mem_cons_of_mem _ hy) List.mem_cons_self, by simp only; rw [scBlk_succ, ← hsc, scStep_go (by rw [hzs]; exact hbd) h44]; simp only [enB, hzs]; rw [if_pos hnw, pput_m ⟨⟨keyP zs, numTo zs 4, valP zs, j, q⟩, rx, cx⟩ nb hms.key], Nat.max_lt.2 ⟨hnu, hn4⟩⟩, by simp only; omega⟩ ⟨rfl, rfl, rfl, rfl, rfl, rfl, trivial⟩ (sub_tail (A := [_, _, _, _, _, _]) (B := [_, _, _, _, _, _, _, _, _]) (T := T) [4, 5, 6, 7, 8, 1] 9 (by decide) (by decide) rfl rfl)
            · skip
              refine gc_drawP [0, 1, 2, 3, 4, 5, 6, 7] false 12 rfl ?_
              refine ga_first 0 #[true, false, false, false, false, false, false, false, false, false, false, false, false] rfl rfl rfl rfl (by kernel_rfl) rfl ⟨[0, 1, 2, 3, 4, 5, 6, 7], by decide, rfl⟩ (qt_rd (rd_move rfl)) ?_
              refine ga_first 1 #[true, true, false, false, false, false, false, false, false, false, false, false, false] rfl rfl rfl rfl (by kernel_rfl) rfl ⟨[0, 1, 2, 3, 4, 5, 6, 7], by decide, rfl⟩ (qt_rd (rd_nilCheck rfl)) ?_
              refine ga_first 2 #[true, true, true, false, false, false, false, false, false, false, false, false, false] rfl rfl rfl rfl (by kernel_rfl) rfl ⟨[0, 1, 2, 3, 4, 5, 6, 7], by decide, rfl⟩ (qt_rd (rd_fieldAddr rfl (fa_81_3 _))) ?_
              refine ga_first 3 #[true, true, true, true, false, false, false, false, false, false, false, false, false] rfl rfl rfl rfl (by kernel_rfl) rfl ⟨[0, 1, 2, 3, 4, 5, 6, 7], by decide, rfl⟩ (qt_rd (rd_load Try.underlying78 rfl rfl (by first | exact ld_blk 1 rfl rfl | exact ld_blk 2 rfl rfl | exact ld_blk 3 rfl rfl | exact ld_blk 5 rfl rfl | exact ld_old (by assumption) (by simp) | exact ld_cells (by assumption) (by simp) rfl))) ?_
              refine ga_first 4 #[true, true, true, true, true, false, false, false, false, false, false, false, false] rfl rfl rfl rfl (by kernel_rfl) rfl ⟨[0, 1, 2, 3, 4, 5, 6, 7], by decide, rfl⟩ (qt_rd (rd_fieldAddr rfl (fa_92_0 _))) ?_
              refine ga_first 5 #[true, true, true, true, true, true, false, false, false, false, false, false, false] rfl rfl rfl rfl (by kernel_rfl) rfl ⟨[0, 1, 2, 3, 4, 5, 6, 7], by decide, rfl⟩ (qt_rd (rd_load Try.underlying3 rfl rfl (by first | exact ld_blk 1 rfl rfl | exact ld_blk 2 rfl rfl | exact ld_blk 3 rfl rfl | exact ld_blk 5 rfl rfl | exact ld_rowN 0 rfl (get_nats (by omega)) | exact ld_rowN 6 rfl (get_nats (by omega)) | exact ld_rowN 7 rfl (get_nats (by omega)) | exact ld_slN (by assumption) (get_nats (by omega)) | exact ld_rowN 0 rfl (get_ints (by omega)) | exact ld_rowN 6 rfl (get_ints (by omega)) | exact ld_rowN 7 rfl (get_ints (by omega)) | exact ld_slN (by assumption) (get_ints (by omega)) | exact ld_old (by assumption) (by simp) | exact ld_cells (by assumption) (by simp) rfl))) ?_
              refine ga_first 6 #[true, true, true, true, true, true, true, false, false, false, false, false, false] rfl rfl rfl rfl (by kernel_rfl) rfl ⟨[0, 1, 2, 3, 4, 5, 6, 7], by decide, rfl⟩ (qt_rd (rd_lookupMOk 4 HV rfl Try.underlying78 Try.underlying3 ty_96 rfl rfl)) ?_
              refine ga_first 7 #[true, true, true, true, true, true, true, true, false, false, false, false, false] rfl rfl rfl rfl (by kernel_rfl) rfl ⟨[0, 1, 2, 3, 4, 5, 6, 7], by decide, rfl⟩ (qt_rd (rd_move rfl)) ?_
              refine ga_first 8 #[true, true, true, true, true, true, true, true, true, false, false, false, false] rfl rfl rfl rfl (by kernel_rfl) rfl ⟨[0, 1, 2, 3, 4, 5, 6, 7], by decide, rfl⟩ (qt_rd (rd_extract rfl rfl)) ?_
              refine ga_first 9 #[true, true, true, true, true, true, true, true, true, true, false, false, false] rfl rfl rfl rfl (by kernel_rfl) rfl ⟨[0, 1, 2, 3, 4, 5, 6, 7], by decide, rfl⟩ (qt_rd (rd_extract rfl rfl)) ?_
              refine ga_only 10 #[true, true, true, true, true, true, true, true, true, true, true, false, false] rfl rfl (by kernel_rfl) rfl (.inr ⟨[0, 1, 2, 3, 4, 5, 6, 7], by decide, rfl⟩) (op_alloc ty_96 rfl rfl (fun b9 => ?_))
              rw [hg, Option.map_some, Option.getD_some, Option.isSome_some]
              first | refine ga_only 11 #[true, true, true, true, true, true, true, true, true, true, true, true, false] rfl rfl (by kernel_rfl) rfl (.inr ⟨[1, 2, 3, 4, 5, 6, 7, 8], by decide, rfl⟩) (op_storeAgg 0 ty_96 rfl rfl rfl rfl rfl rfl (by first | rfl | (simp only [List.set_cons_succ, List.set_cons_zero]; exact rfl)) ?_) | refine ga_only 11 #[true, true, true, true, true, true, true, true, true, true, true, true, false] rfl rfl (by kernel_rfl) rfl (.inr ⟨[1, 2, 3, 4, 5, 6, 7, 8], by decide, rfl⟩) (op_storeAgg 2 ty_96 rfl rfl rfl rfl rfl rfl (by first | rfl | (simp only [List.set_cons_succ, List.set_cons_zero]; exact rfl)) ?_) | refine ga_only 11 #[true, true, true, true, true, true, true, true, true, true, true, true, false] rfl rfl (by kernel_rfl) rfl (.inr ⟨[1, 2, 3, 4, 5, 6, 7, 8], by decide, rfl⟩) (op_storeAgg 3 ty_96 rfl rfl rfl rfl rfl rfl (by first | rfl | (simp only [List.set_cons_succ, List.set_cons_zero]; exact rfl)) ?_) | refine ga_only 11 #[true, true, true, true, true, true, true, true, true, true, true, true, false] rfl rfl (by kernel_rfl) rfl (.inr ⟨[1, 2, 3, 4, 5, 6, 7, 8], by decide, rfl⟩) (op_storeAgg 4 ty_96 rfl rfl rfl rfl rfl rfl (by first | rfl | (simp only [List.set_cons_succ, List.set_cons_zero]; exact rfl)) ?_) | refine ga_only 11 #[true, true, true, true, true, true, true, true, true, true, true, true, false] rfl rfl (by kernel_rfl) rfl (.inr ⟨[1, 2, 3, 4, 5, 6, 7, 8], by decide, rfl⟩) (op_storeAgg 6 ty_96 rfl rfl rfl rfl rfl rfl (by first | rfl | (simp only [List.set_cons_succ, List.set_cons_zero]; exact rfl)) ?_) | refine ga_only 11 #[true, true, true, true, true, true, true, true, true, true, true, true, false] rfl rfl (by kernel_rfl) rfl (.inr ⟨[1, 2, 3, 4, 5, 6, 7, 8], by decide, rfl⟩) (op_storeRowAgg 1 ty_96 rfl rfl rfl rfl rfl (by simp; omega) (by first | rfl | (simp only [List.set_cons_succ, List.set_cons_zero]; exact rfl)) ?_) | refine ga_only 11 #[true, true, true, true, true, true, true, true, true, true, true, true, false] rfl rfl (by kernel_rfl) rfl (.inr ⟨[1, 2, 3, 4, 5, 6, 7, 8], by decide, rfl⟩) (op_storeRowAgg 7 ty_96 rfl rfl rfl rfl rfl (by simp; omega) (by first | rfl | (simp only [List.set_cons_succ, List.set_cons_zero]; exact rfl)) ?_) | refine ga_only 11 #[true, true, true, true, true, true, true, true, true, true, true, true, false] rfl rfl (by kernel_rfl) rfl (.inr ⟨[1, 2, 3, 4, 5, 6, 7, 8], by decide, rfl⟩) (op_storeRowAgg 8 ty_96 rfl rfl rfl rfl rfl (by simp; omega) (by first | rfl | (simp only [List.set_cons_succ, List.set_cons_zero]; exact rfl)) ?_)
              refine ga_only 12 #[true, true, true, true, true, true, true, true, true, true, true, true, true] rfl rfl (by kernel_rfl) rfl (.inr ⟨[1, 2, 3, 4, 5, 6, 7, 8], by decide, rfl⟩) (op_rd rfl (rd_assign rfl) ?_)
              refine ga_end (by kernel_rfl) (.inl (by kernel_rfl)) ?_
              refine gx_then ?_
              refine gc_seq ?_
              refine gc_region ?_
              refine gl_op (op_rd rfl (rd_move rfl) ?_)
              refine gl_op (op_rd rfl (rd_not rfl) ?_)
              refine gl_op (op_rd rfl (rd_move rfl) ?_)
              refine gl_yes rfl rfl (op_rd rfl (rd_fieldAddr rfl (fa_96_0 _)) ?_)
              refine gl_yes rfl rfl (op_rd rfl (rd_fieldAddr rfl (fa_92_1 _)) ?_)
              refine gl_yes rfl rfl (op_rd rfl (rd_load Try.underlying79 rfl rfl (by first | exact ld_blk 0 rfl rfl | exact ld_blk 2 rfl rfl | exact ld_blk 3 rfl rfl | exact ld_blk 4 rfl rfl | exact ld_blk 6 rfl rfl | exact ld_old (by assumption) (by simp) | exact ld_cells (by assumption) (by simp) rfl)) ?_)
              refine gl_yes rfl rfl (op_rd rfl (rd_fieldAddr rfl (fa_92_1 _)) ?_)
              refine gl_yes rfl rfl (op_rd rfl (rd_load Try.underlying79 rfl rfl (by first | exact ld_blk 0 rfl rfl | exact ld_blk 2 rfl rfl | exact ld_blk 3 rfl rfl | exact ld_blk 4 rfl rfl | exact ld_blk 6 rfl rfl | exact ld_old (by assumption) (by simp) | exact ld_cells (by assumption) (by simp) rfl)) ?_)
              refine gl_yes rfl rfl (op_rd rfl (rd_lss rfl rfl) (gk_dec (fun h74 => ?_) (fun h74 => ?_)))
              · skip
                refine gl_op (op_rd rfl (rd_pick_f rfl rfl) ?_)
                refine gl_nil ?_
                refine gx_then ?_
                refine gc_cond_t rfl ?_
                refine gc_drawP [0, 1, 2, 3, 4, 5, 6, 7, 8] false 9 rfl ?_
                refine ga_first 0 #[true, false, false, false, false, false, false, false, false, false] rfl rfl rfl rfl (by kernel_rfl) rfl ⟨[0, 1, 2, 3, 4, 5, 6, 7, 8], by decide, rfl⟩ (qt_rd (rd_move rfl)) ?_
                refine ga_first 1 #[true, true, false, false, false, false, false, false, false, false] rfl rfl rfl rfl (by kernel_rfl) rfl ⟨[0, 1, 2, 3, 4, 5, 6, 7, 8], by decide, rfl⟩ (qt_rd (rd_nilCheck rfl)) ?_
                refine ga_first 2 #[true, true, true, false, false, false, false, false, false, false] rfl rfl rfl rfl (by kernel_rfl) rfl ⟨[0, 1, 2, 3, 4, 5, 6, 7, 8], by decide, rfl⟩ (qt_rd (rd_fieldAddr rfl (fa_81_3 _))) ?_
                refine ga_first 3 #[true, true, true, true, false, false, false, false, false, false] rfl rfl rfl rfl (by kernel_rfl) rfl ⟨[0, 1, 2, 3, 4, 5, 6, 7, 8], by decide, rfl⟩ (qt_rd (rd_load Try.underlying78 rfl rfl (by first | exact ld_blk 0 rfl rfl | exact ld_blk 2 rfl rfl | exact ld_blk 3 rfl rfl | exact ld_blk 4 rfl rfl | exact ld_blk 6 rfl rfl | exact ld_old (by assumption) (by simp) | exact ld_cells (by assumption) (by simp) rfl))) ?_
                refine ga_first 4 #[true, true, true, true, true, false, false, false, false, false] rfl rfl rfl rfl (by kernel_rfl) rfl ⟨[0, 1, 2, 3, 4, 5, 6, 7, 8], by decide, rfl⟩ (qt_rd (rd_fieldAddr rfl (fa_92_0 _))) ?_
                refine ga_first 5 #[true, true, true, true, true, true, false, false, false, false] rfl rfl rfl rfl (by kernel_rfl) rfl ⟨[0, 1, 2, 3, 4, 5, 6, 7, 8], by decide, rfl⟩ (qt_rd (rd_load Try.underlying3 rfl rfl (by first | exact ld_blk 0 rfl rfl | exact ld_blk 2 rfl rfl | exact ld_blk 3 rfl rfl | exact ld_blk 4 rfl rfl | exact ld_blk 6 rfl rfl | exact ld_rowN 1 rfl (get_nats (by omega)) | exact ld_rowN 7 rfl (get_nats (by omega)) | exact ld_rowN 8 rfl (get_nats (by omega)) | exact ld_slN (by assumption) (get_nats (by omega)) | exact ld_rowN 1 rfl (get_ints (by omega)) | exact ld_rowN 7 rfl (get_ints (by omega)) | exact ld_rowN 8 rfl (get_ints (by omega)) | exact ld_slN (by assumption) (get_ints (by omega)) | exact ld_old (by assumption) (by simp) | exact ld_cells (by assumption) (by simp) rfl))) ?_
                refine ga_first 6 #[true, true, true, true, true, true, true, false, false, false] rfl rfl rfl rfl (by kernel_rfl) rfl ⟨[0, 1, 2, 3, 4, 5, 6, 7, 8], by decide, rfl⟩ (qt_rd (rd_loadAgg Try.underlying92 rfl ty_92 rfl (by first | exact cs_blk 0 (off := 0) (k := 3) rfl rfl | exact cs_blk 2 (off := 0) (k := 3) rfl rfl | exact cs_blk 3 (off := 0) (k := 3) rfl rfl | exact cs_blk 4 (off := 0) (k := 3) rfl rfl | exact cs_blk 6 (off := 0) (k := 3) rfl rfl | exact cs_old (by assumption) (by simp)) rfl)) ?_
                refine ga_first 7 #[true, true, true, true, true, true, true, true, false, false] rfl rfl rfl rfl (by kernel_rfl) rfl ⟨[0, 1, 2, 3, 4, 5, 6, 7, 8], by decide, rfl⟩ (qt_rd (rd_loadAgg Try.underlying94 rfl ty_94 rfl (by first | exact cs_blk 0 (off := 0) (k := 2) rfl rfl | exact cs_blk 2 (off := 0) (k := 2) rfl rfl | exact cs_blk 3 (off := 0) (k := 2) rfl rfl | exact cs_blk 4 (off := 0) (k := 2) rfl rfl | exact cs_blk 6 (off := 0) (k := 2) rfl rfl | exact cs_old (by assumption) (by simp)) rfl)) ?_
                refine ga_first 8 #[true, true, true, true, true, true, true, true, true, false] rfl rfl rfl rfl (by kernel_rfl) rfl ⟨[0, 1, 2, 3, 4, 5, 6, 7, 8], by decide, rfl⟩ (qt_rd (rd_build rfl (fun _ => bd_96_0_1 _ _ _ _ _ _ _))) ?_
                refine ga_only 9 #[true, true, true, true, true, true, true, true, true, true] rfl rfl (by kernel_rfl) rfl (.inr ⟨[0, 1, 2, 3, 4, 5, 6, 7, 8], by decide, rfl⟩) (op_mapPutM 5 HV (v := ⟨⟨keyP zs, numTo zs 4, valP zs, j, q⟩, rx, cx⟩) Try.underlying78 Try.underlying3 rfl rfl rfl rfl rfl ?_)
                refine ga_end (by kernel_rfl) (.inl (by kernel_rfl)) ?_
                refine gx_block ?_
                refine gx_then ?_
                refine gc_region ?_
                refine gl_op (op_rd rfl (by first | exact rd_addN (b := 1) rfl rfl (by omega) | exact rd_add rfl rfl (by omega) (by omega)) ?_)
                refine gl_op (op_rd rfl (rd_move rfl) ?_)
                refine gl_nil ?_
                refine gx_then ?_
                have hnw : newer ⟨keyP zs, numTo zs 4, valP zs, j, q⟩ (plain m) = true := by unfold newer; rw [show pget (En.key ⟨keyP zs, numTo zs 4, valP zs, j, q⟩) (plain m) = some o.en from (hms.get hg).2.2.2]; exact decide_eq_true (by simp only; omega)
                exact gx_cut ((q + 1, max nu (numTo zs 4), mput ((keyP zs : Nat) : Int) ⟨⟨keyP zs, numTo zs 4, valP zs, j, q⟩, rx, cx⟩ nb m, mnb ((keyP zs : Nat) : Int) m nb, He.row ⟨⟨keyP zs, numTo zs 4, valP zs, j, q⟩, rx, cx⟩ :: T)) ⟨⟨by simp only; omega, hms.put ⟨⟨keyP zs, numTo zs 4, valP zs, j, q⟩, rx, cx⟩ heo (fun y hy => List.mem_cons_of_mem _ hy) List.mem_cons_self, by simp only; rw [scBlk_succ, ← hsc, scStep_go (by rw [hzs]; exact hbd) h44]; simp only [enB, hzs]; rw [if_pos hnw, pput_m ⟨⟨keyP zs, numTo zs 4, valP zs, j, q⟩, rx, cx⟩ nb hms.key], Nat.max_lt.2 ⟨hnu, hn4⟩⟩, by simp only; omega⟩ ⟨rfl, rfl, rfl, rfl, rfl, rfl, trivial⟩ (sub_tail (A := [_, _, _, _, _, _]) (B := [_, _, _, _, _, _, _, _, _]) (T := T) [4, 5, 6, 7, 8, 1] 9 (by decide) (by decide) rfl rfl)
              · skip
                refine gl_op (op_rd rfl (rd_pick_f rfl rfl) ?_)
                refine gl_nil ?_
                refine gx_then ?_
                refine gc_cond_f rfl ?_
                refine gc_skip ?_
                refine gx_block ?_
                refine gx_then ?_
                refine gc_region ?_
                refine gl_op (op_rd rfl (by first | exact rd_addN (b := 1) rfl rfl (by omega) | exact rd_add rfl rfl (by omega) (by omega)) ?_)
                refine gl_op (op_rd rfl (rd_move rfl) ?_)
                refine gl_nil ?_
                refine gx_then ?_
                have hnw : newer ⟨keyP zs, numTo zs 4, valP zs, j, q⟩ (plain m) = false := by unfold newer; rw [show pget (En.key ⟨keyP zs, numTo zs 4, valP zs, j, q⟩) (plain m) = some o.en from (hms.get hg).2.2.2]; exact decide_eq_false (by simp only; omega)
                exact gx_cut ((q + 1, max nu (numTo zs 4), m, nb, T)) ⟨⟨by simp only; omega, hms, by simp only; rw [scBlk_succ, ← hsc, scStep_go (by rw [hzs]; exact hbd) h44]; simp only [enB, hzs]; rw [hnw]; rfl, Nat.max_lt.2 ⟨hnu, hn4⟩⟩, by simp only; omega⟩ ⟨rfl, rfl, rfl, rfl, rfl, rfl, trivial⟩ (sub_tail (A := [_, _, _, _, _]) (B := [_, _, _, _, _, _, _, _, _]) (T := T) [4, 5, 6, 7, 8] 9 (by decide) (by decide) rfl rfl)
      · skip
        refine gl_nil ?_
        refine gx_then ?_
        refine gc_seq ?_
        refine gc_cond_t rfl ?_
        refine gc_skip ?_
        refine gx_then ?_
        refine gc_seq ?_
        refine gc_block ?_
        refine gc_seq ?_
        refine gc_region ?_
        refine gl_op (op_rd rfl (rd_move rfl) ?_)
        refine gl_op (op_rd rfl (rd_assign rfl) ?_)
        refine gl_nil ?_
        refine gx_then ?_
        refine gc_seq ?_
        refine gc_region ?_
        refine gl_op (op_rd rfl (rd_move rfl) ?_)
        refine gl_op (op_rd rfl (rd_move rfl) ?_)
        refine gl_op (op_rd rfl (rd_build rfl (fun _ => bd_94_0_1 _ _)) ?_)
        refine gl_op (op_alloc ty_94 rfl rfl (fun b6 => ?_))
        first | refine gl_op (op_storeAgg 0 ty_94 rfl rfl rfl rfl rfl rfl (by first | rfl | (simp only [List.set_cons_succ, List.set_cons_zero]; exact rfl)) ?_) | refine gl_op (op_storeAgg 1 ty_94 rfl rfl rfl rfl rfl rfl (by first | rfl | (simp only [List.set_cons_succ, List.set_cons_zero]; exact rfl)) ?_) | refine gl_op (op_storeAgg 3 ty_94 rfl rfl rfl rfl rfl rfl (by first | rfl | (simp only [List.set_cons_succ, List.set_cons_zero]; exact rfl)) ?_) | refine gl_op (op_storeRowAgg 4 ty_94 rfl rfl rfl rfl rfl (by simp; omega) (by first | rfl | (simp only [List.set_cons_succ, List.set_cons_zero]; exact rfl)) ?_) | refine gl_op (op_storeRowAgg 5 ty_94 rfl rfl rfl rfl rfl (by simp; omega) (by first | rfl | (simp only [List.set_cons_succ, List.set_cons_zero]; exact rfl)) ?_)
        refine gl_nil ?_
        refine gx_then ?_
        refine gc_seq ?_
        refine gc_drawP [0, 1, 2, 3, 4, 5] false 12 rfl ?_
        refine ga_first 0 #[true, false, false, false, false, false, false, false, false, false, false, false, false] rfl rfl rfl rfl (by kernel_rfl) rfl ⟨[0, 1, 2, 3, 4, 5], by decide, rfl⟩ (qt_rd (rd_move rfl)) ?_
        refine ga_first 1 #[true, true, false, false, false, false, false, false, false, false, false, false, false] rfl rfl rfl rfl (by kernel_rfl) rfl ⟨[0, 1, 2, 3, 4, 5], by decide, rfl⟩ (qt_rd (rd_nilCheck rfl)) ?_
        refine ga_first 2 #[true, true, true, false, false, false, false, false, false, false, false, false, false] rfl rfl rfl rfl (by kernel_rfl) rfl ⟨[0, 1, 2, 3, 4, 5], by decide, rfl⟩ (qt_rd (rd_fieldAddr rfl (fa_81_1 _))) ?_
        refine ga_first 3 #[true, true, true, true, false, false, false, false, false, false, false, false, false] rfl rfl rfl rfl (by kernel_rfl) rfl ⟨[0, 1, 2, 3, 4, 5], by decide, rfl⟩ (qt_rd (rd_load Try.underlying25 rfl rfl (by first | exact ld_blk 0 rfl rfl | exact ld_blk 1 rfl rfl | exact ld_blk 3 rfl rfl | exact ld_old (by assumption) (by simp) | exact ld_cells (by assumption) (by simp) rfl))) ?_
        refine ga_first 4 #[true, true, true, true, true, false, false, false, false, false, false, false, false] rfl rfl rfl rfl (by kernel_rfl) rfl ⟨[0, 1, 2, 3, 4, 5], by decide, rfl⟩ (qt_rd (rd_loadAgg Try.underlying94 rfl ty_94 rfl (by first | exact cs_blk 0 (off := 0) (k := 2) rfl rfl | exact cs_blk 1 (off := 0) (k := 2) rfl rfl | exact cs_blk 3 (off := 0) (k := 2) rfl rfl | exact cs_old (by assumption) (by simp)) rfl)) ?_
        refine ga_first 5 #[true, true, true, true, true, true, false, false, false, false, false, false, false] rfl rfl rfl rfl (by kernel_rfl) rfl ⟨[0, 1, 2, 3, 4, 5], by decide, rfl⟩ (qt_call (vf := []) (vc := []) rfl rfl Try.call67 (fun w1 ho => slot_q f hf bf gb cb rp cp w1 (ho.blkCells 3 rfl) hcb j q (by omega)) (by rintro _ _ ⟨h, _⟩; exact h)) ?_
        refine ga_first 6 #[true, true, true, true, true, true, true, false, false, false, false, false, false] rfl rfl rfl rfl (by kernel_rfl) rfl ⟨[0, 1, 2, 3, 4, 5], by decide, rfl⟩ (qt_call (vf := []) (vc := []) rfl rfl Try.call66 (fun w1 ho => unpack_bad zs hz8 hzl (some ⟨gb, j * 256 + q * 24, none⟩) (cb - (j * 256 + q * 24)) (by omega) w1 (by rw [← hzs]; unfold slotB; rw [← part_u8]; exact slPart (ho.rowSl 4 rfl) (j * 256 + q * 24) 24 (by omega)) hbd) (by rintro _ _ ⟨h, _⟩; exact h)) ?_
        refine ga_first 7 #[true, true, true, true, true, true, true, true, false, false, false, false, false] rfl rfl rfl rfl (by kernel_rfl) rfl ⟨[0, 1, 2, 3, 4, 5], by decide, rfl⟩ (qt_rd (rd_move rfl)) ?_
        refine ga_first 8 #[true, true, true, true, true, true, true, true, true, false, false, false, false] rfl rfl rfl rfl (by kernel_rfl) rfl ⟨[0, 1, 2, 3, 4, 5], by decide, rfl⟩ (qt_rd (rd_extract rfl rfl)) ?_
        refine ga_first 9 #[true, true, true, true, true, true, true, true, true, true, false, false, false] rfl rfl rfl rfl (by kernel_rfl) rfl ⟨[0, 1, 2, 3, 4, 5], by decide, rfl⟩ (qt_rd (rd_extract rfl rfl)) ?_
        refine ga_only 10 #[true, true, true, true, true, true, true, true, true, true, true, false, false] rfl rfl (by kernel_rfl) rfl (.inr ⟨[0, 1, 2, 3, 4, 5], by decide, rfl⟩) (op_alloc ty_92 rfl rfl (fun b7 => ?_))
        first | refine ga_only 11 #[true, true, true, true, true, true, true, true, true, true, true, true, false] rfl rfl (by kernel_rfl) rfl (.inr ⟨[1, 2, 3, 4, 5, 6], by decide, rfl⟩) (op_storeAgg 0 ty_92 rfl rfl rfl rfl rfl rfl (by first | rfl | (simp only [List.set_cons_succ, List.set_cons_zero]; exact rfl)) ?_) | refine ga_only 11 #[true, true, true, true, true, true, true, true, true, true, true, true, false] rfl rfl (by kernel_rfl) rfl (.inr ⟨[1, 2, 3, 4, 5, 6], by decide, rfl⟩) (op_storeAgg 1 ty_92 rfl rfl rfl rfl rfl rfl (by first | rfl | (simp only [List.set_cons_succ, List.set_cons_zero]; exact rfl)) ?_) | refine ga_only 11 #[true, true, true, true, true, true, true, true, true, true, true, true, false] rfl rfl (by kernel_rfl) rfl (.inr ⟨[1, 2, 3, 4, 5, 6], by decide, rfl⟩) (op_storeAgg 2 ty_92 rfl rfl rfl rfl rfl rfl (by first | rfl | (simp only [List.set_cons_succ, List.set_cons_zero]; exact rfl)) ?_) | refine ga_only 11 #[true, true, true, true, true, true, true, true, true, true, true, true, false] rfl rfl (by kernel_rfl) rfl (.inr ⟨[1, 2, 3, 4, 5, 6], by decide, rfl⟩) (op_storeAgg 4 ty_92 rfl rfl rfl rfl rfl rfl (by first | rfl | (simp only [List.set_cons_succ, List.set_cons_zero]; exact rfl)) ?_) | refine ga_only 11 #[true, true, true, true, true, true, true, true, true, true, true, true, false] rfl rfl (by kernel_rfl) rfl (.inr ⟨[1, 2, 3, 4, 5, 6], by decide, rfl⟩) (op_storeRowAgg 5 ty_92 rfl rfl rfl rfl rfl (by simp; omega) (by first | rfl | (simp only [List.set_cons_succ, List.set_cons_zero]; exact rfl)) ?_) | refine ga_only 11 #[true, true, true, true, true, true, true, true, true, true, true, true, false] rfl rfl (by kernel_rfl) rfl (.inr ⟨[1, 2, 3, 4, 5, 6], by decide, rfl⟩) (op_storeRowAgg 6 ty_92 rfl rfl rfl rfl rfl (by simp; omega) (by first | rfl | (simp only [List.set_cons_succ, List.set_cons_zero]; exact rfl)) ?_)
        refine ga_only 12 #[true, true, true, true, true, true, true, true, true, true, true, true, true] rfl rfl (by kernel_rfl) rfl (.inr ⟨[1, 2, 3, 4, 5, 6], by decide, rfl⟩) (op_rd rfl (rd_assign rfl) ?_)
        refine ga_end (by kernel_rfl) (.inl (by kernel_rfl)) ?_
        refine gx_then ?_
        refine gc_seq ?_
        refine gc_seq ?_
        refine gc_region ?_
        refine gl_op (op_rd rfl (rd_move rfl) ?_)
        refine gl_op (op_rd rfl (rd_not rfl) ?_)
        refine gl_op (op_rd rfl (rd_move rfl) ?_)
        refine gl_no rfl rfl rfl ?_
        refine gl_no rfl rfl rfl ?_
        refine gl_no rfl rfl rfl ?_
        refine gl_op (op_rd rfl (rd_pick_t rfl rfl) ?_)
        refine gl_nil ?_
        refine gx_then ?_
        refine gc_cond_t rfl ?_
        refine gc_exit ?_
        refine gx_then_exit ?_
        refine gx_block_exit ?_
        refine gx_then ?_
        refine gc_region ?_
        refine gl_op (op_rd rfl (by first | exact rd_addN (b := 1) rfl rfl (by omega) | exact rd_add rfl rfl (by omega) (by omega)) ?_)
        refine gl_op (op_rd rfl (rd_move rfl) ?_)
        refine gl_nil ?_
        refine gx_then ?_
        exact gx_cut ((q + 1, nu, m, nb, T)) ⟨⟨by simp only; omega, hms, by simp only; rw [scBlk_succ, ← hsc, scStep_skip (.inl (by rw [hzs]; exact hbd))], hnu⟩, by simp only; omega⟩ ⟨rfl, rfl, rfl, rfl, rfl, rfl, trivial⟩ (sub_tail (A := [_, _, _, _, _]) (B := [_, _, _, _, _, _, _]) (T := T) [2, 3, 4, 5, 6] 7 (by decide) (by decide) rfl rfl)
    · skip
      refine gl_nil ?_
      refine gx_then ?_
      refine gc_seq ?_
      refine gc_cond_f rfl ?_
      refine gc_exit ?_
      refine gx_then_exit ?_
      refine gx_then_exit ?_
      refine gx_block_exit ?_
      refine gx_block ?_
      refine gx_then ?_
      refine gc_region ?_
      refine gl_op (op_rd rfl (by first | exact rd_addN (b := 1) rfl rfl (by omega) | exact rd_add rfl rfl (by omega) (by omega)) ?_)
      refine gl_op (op_rd rfl (rd_move rfl) ?_)
      refine gl_nil ?_
      refine gx_then ?_
      exact gx_cut ((j + 1, nu, m, nb, T)) ⟨⟨by simp only; omega, hms, by simp only; rw [scTo_succ, ← hsc0, hsc, show q = 10 by omega], hnu⟩, by simp only; omega⟩ ⟨rfl, rfl, rfl, rfl, trivial⟩ (sub_tail (A := [_, _, _, _, _]) (B := [_, _, _, _, _]) (T := T) [0, 1, 2, 3, 4] 5 (by decide) (by decide) rfl rfl)
  · skip
    refine gl_nil ?_
    refine gx_then ?_
    refine gc_seq ?_
    refine gc_cond_f rfl ?_
    refine gc_exit ?_
    refine gx_then_exit ?_
    refine gx_then_exit ?_
    refine gx_block_exit ?_
    refine gx_ret0S (.inr rfl) Try.results39 (sub_tail (A := [_, _, _, _, _]) (B := [_, _, _, _, _]) (T := T) [0, 1, 2, 3, 4] 5 (by decide) (by decide) rfl rfl) ?_
    exact ⟨b12, m, nb, T, nu, rfl, hms, by rw [hsc, show j = f.b.length / 256 by omega]; rfl, hnu, rfl⟩

end Go.Proofs.Ythcbcdjkfefnlaa

set_option autoImplicit false
set_option linter.unusedVariables false
namespace Go.Proofs.Ythcbcdjkfefnlaa
open Go.Gv
open Go.RowKit
open Iv
namespace Iv
theorem spare_false {b : List Nat} {P : List En} {bk q : Nat} (hq : q < 10) (h : coversAt b P bk q = false) : spareP b P bk = false := by
  unfold spareP
  rw [List.all_eq_false]
  exact ⟨q, List.mem_range.2 hq, by rw [h]; decide⟩
theorem spare_true {b : List Nat} {P : List En} {bk : Nat} (h : ∀ i, i < 10 → coversAt b P bk i = true) : spareP b P bk = true := by
  unfold spareP
  rw [List.all_eq_true]
  exact fun i hi => h i (List.mem_range.1 hi)
/-- an empty place outside of the free block -/
structure RoomAt (b : List Nat) (free : Int) (bk sl : Nat) : Prop where
  hbk : bk < b.length / 256
  hsl : sl < 10
  ne : (bk : Int) ≠ free
  em : zerosP (slotB b bk sl) = 0
def NoRoom (b : List Nat) (free : Int) : Prop := ∀ bk sl, bk < b.length / 256 → sl < 10 → (bk : Int) ≠ free → zerosP (slotB b bk sl) ≠ 0
def RoomR (b : List Nat) (free : Int) (v : Value) (L : List HL) : Prop :=
  L = [] ∧ ((∃ bk sl : Nat, v = .tuple #[.agg #[natV bk, natV sl], .bool true] ∧ RoomAt b free bk sl) ∨ (∃ bk sl : Nat, v = .tuple #[.agg #[natV bk, natV sl], .bool false] ∧ NoRoom b free))
end Iv

set_option maxRecDepth 100000 in
set_option maxHeartbeats 4000000 in
theorem spare_ok (f : Fl) (hf : f.Ok) (bs bf : Nat) (rb : Option Nat) (cb : Nat) (rp : Option Nat) (cp : Nat) (id bm num : Nat) (free : Int) (m : List (ME He)) (nb : Nat) (T : List HL) (hms : MSt m nb T) (S : List Nat) (w0 : World) (hown : Own w0 S w0 (.blk bs [.bool true, .pointer (some ⟨bf, 0, none⟩), natV id, .map (some bm), .int .u32 ((num : Nat) : Int), .int .i64 free] 81 :: .obj bm (mapO HV m nb) :: FlH bf rb cb rp cp f)) (j : Nat) (hj : j < f.b.length / 256) : Sp Try.prog 40 [.pointer (some ⟨bs, 0, none⟩), natV j] w0 S (fun v L => v = .bool (spareP f.b (plain m) j) ∧ L = (.blk bs [.bool true, .pointer (some ⟨bf, 0, none⟩), natV id, .map (some bm), .int .u32 ((num : Nat) : Int), .int .i64 free] 81 :: .obj bm (mapO HV m nb) :: FlH bf rb cb rp cp f)) := by
  have hbl := hf.hi
  have hbl0 := hf.lo
  have hblm := hf.len
  obtain ⟨gb, rfl, hcb⟩ := row_some (hown.holds (.row 5 1 rb f.b.length cb (f.b.map u8V)) (by simp)) (by omega)
  refine spec_enter Try.func40 rfl Try.ntmps40 rfl hown ?_
  simp only [argEnv]
  refine gc_seq ?_
  refine gc_region ?_
  refine gl_op (op_rd rfl (rd_assign rfl) ?_)
  refine gl_nil ?_
  refine gx_then ?_
  refine gc_seq ?_
  refine gc_seq ?_
  refine gc_region ?_
  refine gl_op (op_rd rfl (rd_move rfl) ?_)
  refine gl_nil ?_
  refine gx_then ?_
  refine gc_block ?_
  refine gc_loopF (ι := Nat) [(0, _), (1, _)] [_, _, _, _, _] (fun q => q ≤ 10 ∧ ∀ i, i < q → coversAt f.b (plain m) j i = true) (fun q Fr0 => ((10, natV q) :: Fr0)) (fun q Fr0 => Fr0) (fun q => 10 - q) 0 (⟨Nat.zero_le _, fun i hi => absurd hi (Nat.not_lt_zero _)⟩) ⟨rfl, rfl, rfl, trivial⟩ ⟨[0, 1, 2, 3, 4], by decide, rfl⟩ ?_
  rintro q ⟨hq, hcv⟩
  refine gc_seq ?_
  refine gc_region ?_
  refine gl_op (op_rd rfl (rd_lss rfl rfl) (gk_dec (fun h11 => ?_) (fun h11 => ?_)))
  · skip
    obtain ⟨zs, hzs⟩ : ∃ zs, slotB f.b j q = zs := ⟨_, rfl⟩
    have hzl : zs.length = 24 := by rw [← hzs]; exact slot_len (by omega)
    have hz8 : ∀ z ∈ zs, z < 256 := by rw [← hzs]; exact slot_lt hf.bs j q
    rcases hbd : badP zs with _ | _
    · skip
      refine gl_nil ?_
      refine gx_then ?_
      refine gc_seq ?_
      refine gc_cond_t rfl ?_
      refine gc_skip ?_
      refine gx_then ?_
      refine gc_seq ?_
      refine gc_block ?_
      refine gc_seq ?_
      refine gc_region ?_
      refine gl_op (op_rd rfl (rd_move rfl) ?_)
      refine gl_op (op_rd rfl (rd_assign rfl) ?_)
      refine gl_nil ?_
      refine gx_then ?_
      refine gc_seq ?_
      refine gc_region ?_
      refine gl_op (op_rd rfl (rd_move rfl) ?_)
      refine gl_op (op_rd rfl (rd_nilCheck rfl) ?_)
      refine gl_op (op_rd rfl (rd_fieldAddr rfl (fa_81_1 _)) ?_)
      refine gl_op (op_rd rfl (rd_load Try.underlying25 rfl rfl (by first | exact ld_blk 0 rfl rfl | exact ld_blk 2 rfl rfl | exact ld_old (by assumption) (by simp) | exact ld_cells (by assumption) (by simp) rfl)) ?_)
      refine gl_op (op_rd rfl (rd_move rfl) ?_)
      refine gl_op (op_rd rfl (rd_move rfl) ?_)
      refine gl_op (op_rd rfl (rd_build rfl (fun _ => bd_94_0_1 _ _)) ?_)
      refine gl_op (op_call rfl (vf := []) (vc := []) rfl rfl Try.call67 (fun w1 ho => slot_q f hf bf gb cb rp cp w1 (ho.blkCells 2 rfl) hcb j q (by omega)) ?_)
      rintro _ _ ⟨rfl, rfl⟩
      refine gl_op (op_call rfl (vf := []) (vc := []) rfl rfl Try.call66 (fun w1 ho => unpack_good zs hz8 hzl (some ⟨gb, j * 256 + q * 24, none⟩) (cb - (j * 256 + q * 24)) (by omega) w1 (by rw [← hzs]; unfold slotB; rw [← part_u8]; exact slPart (ho.rowSl 3 rfl) (j * 256 + q * 24) 24 (by omega)) hbd) ?_)
      rintro _ _ ⟨rx, cx, rfl, rfl⟩
      refine gl_op (op_rd rfl (rd_move rfl) ?_)
      refine gl_op (op_rd rfl (rd_extract rfl rfl) ?_)
      refine gl_op (op_rd rfl (rd_extract rfl rfl) ?_)
      refine gl_op (op_alloc ty_92 rfl rfl (fun b6 => ?_))
      first | refine gl_op (op_storeAgg 0 ty_92 rfl rfl rfl rfl rfl rfl (by first | rfl | (simp only [List.set_cons_succ, List.set_cons_zero]; exact rfl)) ?_) | refine gl_op (op_storeAgg 2 ty_92 rfl rfl rfl rfl rfl rfl (by first | rfl | (simp only [List.set_cons_succ, List.set_cons_zero]; exact rfl)) ?_) | refine gl_op (op_storeAgg 4 ty_92 rfl rfl rfl rfl rfl rfl (by first | rfl | (simp only [List.set_cons_succ, List.set_cons_zero]; exact rfl)) ?_) | refine gl_op (op_storeRowAgg 1 ty_92 rfl rfl rfl rfl rfl (by simp; omega) (by first | rfl | (simp only [List.set_cons_succ, List.set_cons_zero]; exact rfl)) ?_) | refine gl_op (op_storeRowAgg 5 ty_92 rfl rfl rfl rfl rfl (by simp; omega) (by first | rfl | (simp only [List.set_cons_succ, List.set_cons_zero]; exact rfl)) ?_) | refine gl_op (op_storeRowAgg 6 ty_92 rfl rfl rfl rfl rfl (by simp; omega) (by first | rfl | (simp only [List.set_cons_succ, List.set_cons_zero]; exact rfl)) ?_)
      refine gl_op (op_rd rfl (rd_assign rfl) ?_)
      refine gl_nil ?_
      refine gx_then ?_
      refine gc_seq ?_
      refine gc_seq ?_
      refine gc_region ?_
      refine gl_op (op_rd rfl (rd_move rfl) ?_)
      refine gl_op (op_rd rfl (rd_not rfl) ?_)
      refine gl_nil ?_
      refine gx_then ?_
      refine gc_cond_f rfl ?_
      refine gc_skip ?_
      refine gx_then ?_
      refine gc_seq ?_
      rcases hg : mget ((keyP zs : Nat) : Int) m with _ | o
      · skip
        refine gc_drawP [0, 1, 2, 3, 4, 5, 6] false 12 rfl ?_
        refine ga_first 0 #[true, false, false, false, false, false, false, false, false, false, false, false, false] rfl rfl rfl rfl (by kernel_rfl) rfl ⟨[0, 1, 2, 3, 4, 5, 6], by decide, rfl⟩ (qt_rd (rd_move rfl)) ?_
        refine ga_first 1 #[true, true, false, false, false, false, false, false, false, false, false, false, false] rfl rfl rfl rfl (by kernel_rfl) rfl ⟨[0, 1, 2, 3, 4, 5, 6], by decide, rfl⟩ (qt_rd (rd_nilCheck rfl)) ?_
        refine ga_first 2 #[true, true, true, false, false, false, false, false, false, false, false, false, false] rfl rfl rfl rfl (by kernel_rfl) rfl ⟨[0, 1, 2, 3, 4, 5, 6], by decide, rfl⟩ (qt_rd (rd_fieldAddr rfl (fa_81_3 _))) ?_
        refine ga_first 3 #[true, true, true, true, false, false, false, false, false, false, false, false, false] rfl rfl rfl rfl (by kernel_rfl) rfl ⟨[0, 1, 2, 3, 4, 5, 6], by decide, rfl⟩ (qt_rd (rd_load Try.underlying78 rfl rfl (by first | exact ld_blk 0 rfl rfl | exact ld_blk 2 rfl rfl | exact ld_blk 4 rfl rfl | exact ld_old (by assumption) (by simp) | exact ld_cells (by assumption) (by simp) rfl))) ?_
        refine ga_first 4 #[true, true, true, true, true, false, false, false, false, false, false, false, false] rfl rfl rfl rfl (by kernel_rfl) rfl ⟨[0, 1, 2, 3, 4, 5, 6], by decide, rfl⟩ (qt_rd (rd_fieldAddr rfl (fa_92_0 _))) ?_
        refine ga_first 5 #[true, true, true, true, true, true, false, false, false, false, false, false, false] rfl rfl rfl rfl (by kernel_rfl) rfl ⟨[0, 1, 2, 3, 4, 5, 6], by decide, rfl⟩ (qt_rd (rd_load Try.underlying3 rfl rfl (by first | exact ld_blk 0 rfl rfl | exact ld_blk 2 rfl rfl | exact ld_blk 4 rfl rfl | exact ld_rowN 1 rfl (get_nats (by omega)) | exact ld_rowN 5 rfl (get_nats (by omega)) | exact ld_rowN 6 rfl (get_nats (by omega)) | exact ld_slN (by assumption) (get_nats (by omega)) | exact ld_rowN 1 rfl (get_ints (by omega)) | exact ld_rowN 5 rfl (get_ints (by omega)) | exact ld_rowN 6 rfl (get_ints (by omega)) | exact ld_slN (by assumption) (get_ints (by omega)) | exact ld_old (by assumption) (by simp) | exact ld_cells (by assumption) (by simp) rfl))) ?_
        refine ga_first 6 #[true, true, true, true, true, true, true, false, false, false, false, false, false] rfl rfl rfl rfl (by kernel_rfl) rfl ⟨[0, 1, 2, 3, 4, 5, 6], by decide, rfl⟩ (qt_rd (rd_lookupMOk 3 HV rfl Try.underlying78 Try.underlying3 ty_96 rfl rfl)) ?_
        refine ga_first 7 #[true, true, true, true, true, true, true, true, false, false, false, false, false] rfl rfl rfl rfl (by kernel_rfl) rfl ⟨[0, 1, 2, 3, 4, 5, 6], by decide, rfl⟩ (qt_rd (rd_move rfl)) ?_
        refine ga_first 8 #[true, true, true, true, true, true, true, true, true, false, false, false, false] rfl rfl rfl rfl (by kernel_rfl) rfl ⟨[0, 1, 2, 3, 4, 5, 6], by decide, rfl⟩ (qt_rd (rd_extract rfl rfl)) ?_
        refine ga_first 9 #[true, true, true, true, true, true, true, true, true, true, false, false, false] rfl rfl rfl rfl (by kernel_rfl) rfl ⟨[0, 1, 2, 3, 4, 5, 6], by decide, rfl⟩ (qt_rd (rd_extract rfl rfl)) ?_
        refine ga_only 10 #[true, true, true, true, true, true, true, true, true, true, true, false, false] rfl rfl (by kernel_rfl) rfl (.inr ⟨[0, 1, 2, 3, 4, 5, 6], by decide, rfl⟩) (op_alloc ty_96 rfl rfl (fun b8 => ?_))
        rw [hg, Option.map_none, Option.getD_none, Option.isSome_none]
        first | refine ga_only 11 #[true, true, true, true, true, true, true, true, true, true, true, true, false] rfl rfl (by kernel_rfl) rfl (.inr ⟨[1, 2, 3, 4, 5, 6, 7], by decide, rfl⟩) (op_storeAgg 0 ty_96 rfl rfl rfl rfl rfl rfl (by first | rfl | (simp only [List.set_cons_succ, List.set_cons_zero]; exact rfl)) ?_) | refine ga_only 11 #[true, true, true, true, true, true, true, true, true, true, true, true, false] rfl rfl (by kernel_rfl) rfl (.inr ⟨[1, 2, 3, 4, 5, 6, 7], by decide, rfl⟩) (op_storeAgg 1 ty_96 rfl rfl rfl rfl rfl rfl (by first | rfl | (simp only [List.set_cons_succ, List.set_cons_zero]; exact rfl)) ?_) | refine ga_only 11 #[true, true, true, true, true, true, true, true, true, true, true, true, false] rfl rfl (by kernel_rfl) rfl (.inr ⟨[1, 2, 3, 4, 5, 6, 7], by decide, rfl⟩) (op_storeAgg 3 ty_96 rfl rfl rfl rfl rfl rfl (by first | rfl | (simp only [List.set_cons_succ, List.set_cons_zero]; exact rfl)) ?_) | refine ga_only 11 #[true, true, true, true, true, true, true, true, true, true, true, true, false] rfl rfl (by kernel_rfl) rfl (.inr ⟨[1, 2, 3, 4, 5, 6, 7], by decide, rfl⟩) (op_storeAgg 5 ty_96 rfl rfl rfl rfl rfl rfl (by first | rfl | (simp only [List.set_cons_succ, List.set_cons_zero]; exact rfl)) ?_) | refine ga_only 11 #[true, true, true, true, true, true, true, true, true, true, true, true, false] rfl rfl (by kernel_rfl) rfl (.inr ⟨[1, 2, 3, 4, 5, 6, 7], by decide, rfl⟩) (op_storeRowAgg 2 ty_96 rfl rfl rfl rfl rfl (by simp; omega) (by first | rfl | (simp only [List.set_cons_succ, List.set_cons_zero]; exact rfl)) ?_) | refine ga_only 11 #[true, true, true, true, true, true, true, true, true, true, true, true, false] rfl rfl (by kernel_rfl) rfl (.inr ⟨[1, 2, 3, 4, 5, 6, 7], by decide, rfl⟩) (op_storeRowAgg 6 ty_96 rfl rfl rfl rfl rfl (by simp; omega) (by first | rfl | (simp only [List.set_cons_succ, List.set_cons_zero]; exact rfl)) ?_) | refine ga_only 11 #[true, true, true, true, true, true, true, true, true, true, true, true, false] rfl rfl (by kernel_rfl) rfl (.inr ⟨[1, 2, 3, 4, 5, 6, 7], by decide, rfl⟩) (op_storeRowAgg 7 ty_96 rfl rfl rfl rfl rfl (by simp; omega) (by first | rfl | (simp only [List.set_cons_succ, List.set_cons_zero]; exact rfl)) ?_)
        refine ga_only 12 #[true, true, true, true, true, true, true, true, true, true, true, true, true] rfl rfl (by kernel_rfl) rfl (.inr ⟨[1, 2, 3, 4, 5, 6, 7], by decide, rfl⟩) (op_rd rfl (rd_assign rfl) ?_)
        refine ga_end (by kernel_rfl) (.inl (by kernel_rfl)) ?_
        refine gx_then ?_
        refine gc_seq ?_
        refine gc_region ?_
        refine gl_op (op_rd rfl (rd_move rfl) ?_)
        refine gl_op (op_rd rfl (rd_not rfl) ?_)
        refine gl_op (op_rd rfl (rd_move rfl) ?_)
        refine gl_no rfl rfl rfl ?_
        refine gl_no rfl rfl rfl ?_
        refine gl_no rfl rfl rfl ?_
        refine gl_no rfl rfl rfl ?_
        refine gl_no rfl rfl rfl ?_
        refine gl_no rfl rfl rfl ?_
        refine gl_op (op_rd rfl (rd_pick_t rfl rfl) ?_)
        refine gl_nil ?_
        refine gx_then ?_
        refine gc_cond_t rfl ?_
        refine gc_seq ?_
        refine gc_region ?_
        refine gl_op (op_rd rfl (rd_assign rfl) ?_)
        refine gl_nil ?_
        refine gx_then ?_
        refine gc_ret ?_
        refine gx_block_ret ?_
        refine gx_then_ret ?_
        refine gx_then_ret ?_
        refine gx_block_ret ?_
        refine gx_then_ret ?_
        have hco : coversAt f.b (plain m) j q = false := by unfold coversAt; rw [show newer (enB f.b j q) (plain m) = true by unfold newer enB; rw [hzs]; rw [show pget (En.key ⟨keyP zs, numTo zs 4, valP zs, j, q⟩) (plain m) = none from hms.none hg], hzs, hbd]; rfl
        refine gx_ret1 (.inl rfl) Try.results40 rfl [3, 4, 5, 6, 7] (by decide) ?_
        exact ⟨by rw [spare_false (by omega) hco], rfl⟩
      · skip
        refine gc_drawP [0, 1, 2, 3, 4, 5, 6] false 12 rfl ?_
        refine ga_first 0 #[true, false, false, false, false, false, false, false, false, false, false, false, false] rfl rfl rfl rfl (by kernel_rfl) rfl ⟨[0, 1, 2, 3, 4, 5, 6], by decide, rfl⟩ (qt_rd (rd_move rfl)) ?_
        refine ga_first 1 #[true, true, false, false, false, false, false, false, false, false, false, false, false] rfl rfl rfl rfl (by kernel_rfl) rfl ⟨[0, 1, 2, 3, 4, 5, 6], by decide, rfl⟩ (qt_rd (rd_nilCheck rfl)) ?_
        refine ga_first 2 #[true, true, true, false, false, false, false, false, false, false, false, false, false] rfl rfl rfl rfl (by kernel_rfl) rfl ⟨[0, 1, 2, 3, 4, 5, 6], by decide, rfl⟩ (qt_rd (rd_fieldAddr rfl (fa_81_3 _))) ?_
        refine ga_first 3 #[true, true, true, true, false, false, false, false, false, false, false, false, false] rfl rfl rfl rfl (by kernel_rfl) rfl ⟨[0, 1, 2, 3, 4, 5, 6], by decide, rfl⟩ (qt_rd (rd_load Try.underlying78 rfl rfl (by first | exact ld_blk 0 rfl rfl | exact ld_blk 2 rfl rfl | exact ld_blk 4 rfl rfl | exact ld_old (by assumption) (by simp) | exact ld_cells (by assumption) (by simp) rfl))) ?_
        refine ga_first 4 #[true, true, true, true, true, false, false, false, false, false, false, false, false] rfl rfl rfl rfl (by kernel_rfl) rfl ⟨[0, 1, 2, 3, 4, 5, 6], by decide, rfl⟩ (qt_rd (rd_fieldAddr rfl (fa_92_0 _))) ?_
        refine ga_first 5 #[true, true, true, true, true, true, false, false, false, false, false, false, false] rfl rfl rfl rfl (by kernel_rfl) rfl ⟨[0, 1, 2, 3, 4, 5, 6], by decide, rfl⟩ (qt_rd (rd_load Try.underlying3 rfl rfl (by first | exact ld_blk 0 rfl rfl | exact ld_blk 2 rfl rfl | exact ld_blk 4 rfl rfl | exact ld_rowN 1 rfl (get_nats (by omega)) | exact ld_rowN 5 rfl (get_nats (by omega)) | exact ld_rowN 6 rfl (get_nats (by omega)) | exact ld_slN (by assumption) (get_nats (by omega)) | exact ld_rowN 1 rfl (get_ints (by omega)) | exact ld_rowN 5 rfl (get_ints (by omega)) | exact ld_rowN 6 rfl (get_ints (by omega)) | exact ld_slN (by assumption) (get_ints (by omega)) | exact ld_old (by assumption) (by simp) | exact ld_cells (by assumption) (by simp) rfl))) ?_
        refine ga_first 6 #[true, true, true, true, true, true, true, false, false, false, false, false, false] rfl rfl rfl rfl (by kernel_rfl) rfl ⟨[0, 1, 2, 3, 4, 5, 6], by decide, rfl⟩ (qt_rd (rd_lookupMOk 3 HV rfl Try.underlying78 Try.underlying3 ty_96 rfl rfl)) ?_
        refine ga_first 7 #[true, true, true, true, true, true, true, true, false, false, false, false, false] rfl rfl rfl rfl (by kernel_rfl) rfl ⟨[0, 1, 2, 3, 4, 5, 6], by decide, rfl⟩ (qt_rd (rd_move rfl)) ?_
        refine ga_first 8 #[true, true, true, true, true, true, true, true, true, false, false, false, false] rfl rfl rfl rfl (by kernel_rfl) rfl ⟨[0, 1, 2, 3, 4, 5, 6], by decide, rfl⟩ (qt_rd (rd_extract rfl rfl)) ?_
        refine ga_first 9 #[true, true, true, true, true, true, true, true, true, true, false, false, false] rfl rfl rfl rfl (by kernel_rfl) rfl ⟨[0, 1, 2, 3, 4, 5, 6], by decide, rfl⟩ (qt_rd (rd_extract rfl rfl)) ?_
        refine ga_only 10 #[true, true, true, true, true, true, true, true, true, true, true, false, false] rfl rfl (by kernel_rfl) rfl (.inr ⟨[0, 1, 2, 3, 4, 5, 6], by decide, rfl⟩) (op_alloc ty_96 rfl rfl (fun b8 => ?_))
        rw [hg, Option.map_some, Option.getD_some, Option.isSome_some]
        first | refine ga_only 11 #[true, true, true, true, true, true, true, true, true, true, true, true, false] rfl rfl (by kernel_rfl) rfl (.inr ⟨[1, 2, 3, 4, 5, 6, 7], by decide, rfl⟩) (op_storeAgg 0 ty_96 rfl rfl rfl rfl rfl rfl (by first | rfl | (simp only [List.set_cons_succ, List.set_cons_zero]; exact rfl)) ?_) | refine ga_only 11 #[true, true, true, true, true, true, true, true, true, true, true, true, false] rfl rfl (by kernel_rfl) rfl (.inr ⟨[1, 2, 3, 4, 5, 6, 7], by decide, rfl⟩) (op_storeAgg 1 ty_96 rfl rfl rfl rfl rfl rfl (by first | rfl | (simp only [List.set_cons_succ, List.set_cons_zero]; exact rfl)) ?_) | refine ga_only 11 #[true, true, true, true, true, true, true, true, true, true, true, true, false] rfl rfl (by kernel_rfl) rfl (.inr ⟨[1, 2, 3, 4, 5, 6, 7], by decide, rfl⟩) (op_storeAgg 3 ty_96 rfl rfl rfl rfl rfl rfl (by first | rfl | (simp only [List.set_cons_succ, List.set_cons_zero]; exact rfl)) ?_) | refine ga_only 11 #[true, true, true, true, true, true, true, true, true, true, true, true, false] rfl rfl (by kernel_rfl) rfl (.inr ⟨[1, 2, 3, 4, 5, 6, 7], by decide, rfl⟩) (op_storeAgg 5 ty_96 rfl rfl rfl rfl rfl rfl (by first | rfl | (simp only [List.set_cons_succ, List.set_cons_zero]; exact rfl)) ?_) | refine ga_only 11 #[true, true, true, true, true, true, true, true, true, true, true, true, false] rfl rfl (by kernel_rfl) rfl (.inr ⟨[1, 2, 3, 4, 5, 6, 7], by decide, rfl⟩) (op_storeRowAgg 2 ty_96 rfl rfl rfl rfl rfl (by simp; omega) (by first | rfl | (simp only [List.set_cons_succ, List.set_cons_zero]; exact rfl)) ?_) | refine ga_only 11 #[true, true, true, true, true, true, true, true, true, true, true, true, false] rfl rfl (by kernel_rfl) rfl (.inr ⟨[1, 2, 3, 4, 5, 6, 7], by decide, rfl⟩) (op_storeRowAgg 6 ty_96 rfl rfl rfl rfl rfl (by simp; omega) (by first | rfl | (simp only [List.set_cons_succ, List.set_cons_zero]; exact rfl)) ?_) | refine ga_only 11 #[true, true, true, true, true, true, true, true, true, true, true, true, false] rfl rfl (by kernel_rfl) rfl (.inr ⟨[1, 2, 3, 4, 5, 6, 7], by decide, rfl⟩) (op_storeRowAgg 7 ty_96 rfl rfl rfl rfl rfl (by simp; omega) (by first | rfl | (simp only [List.set_cons_succ, List.set_cons_zero]; exact rfl)) ?_)
        refine ga_only 12 #[true, true, true, true, true, true, true, true, true, true, true, true, true] rfl rfl (by kernel_rfl) rfl (.inr ⟨[1, 2, 3, 4, 5, 6, 7], by decide, rfl⟩) (op_rd rfl (rd_assign rfl) ?_)
        refine ga_end (by kernel_rfl) (.inl (by kernel_rfl)) ?_
        refine gx_then ?_
        refine gc_seq ?_
        refine gc_region ?_
        refine gl_op (op_rd rfl (rd_move rfl) ?_)
        refine gl_op (op_rd rfl (rd_not rfl) ?_)
        refine gl_op (op_rd rfl (rd_move rfl) ?_)
        refine gl_yes rfl rfl (op_rd rfl (rd_fieldAddr rfl (fa_96_0 _)) ?_)
        refine gl_yes rfl rfl (op_rd rfl (rd_fieldAddr rfl (fa_92_1 _)) ?_)
        refine gl_yes rfl rfl (op_rd rfl (rd_load Try.underlying79 rfl rfl (by first | exact ld_blk 0 rfl rfl | exact ld_blk 1 rfl rfl | exact ld_blk 3 rfl rfl | exact ld_blk 5 rfl rfl | exact ld_old (by assumption) (by simp) | exact ld_cells (by assumption) (by simp) rfl)) ?_)
        refine gl_yes rfl rfl (op_rd rfl (rd_fieldAddr rfl (fa_92_1 _)) ?_)
        refine gl_yes rfl rfl (op_rd rfl (rd_load Try.underlying79 rfl rfl (by first | exact ld_blk 0 rfl rfl | exact ld_blk 1 rfl rfl | exact ld_blk 3 rfl rfl | exact ld_blk 5 rfl rfl | exact ld_old (by assumption) (by simp) | exact ld_cells (by assumption) (by simp) rfl)) ?_)
        refine gl_yes rfl rfl (op_rd rfl (rd_lss rfl rfl) (gk_dec (fun h45 => ?_) (fun h45 => ?_)))
        · skip
          refine gl_op (op_rd rfl (rd_pick_f rfl rfl) ?_)
          refine gl_nil ?_
          refine gx_then ?_
          refine gc_cond_t rfl ?_
          refine gc_seq ?_
          refine gc_region ?_
          refine gl_op (op_rd rfl (rd_assign rfl) ?_)
          refine gl_nil ?_
          refine gx_then ?_
          refine gc_ret ?_
          refine gx_block_ret ?_
          refine gx_then_ret ?_
          refine gx_then_ret ?_
          refine gx_block_ret ?_
          refine gx_then_ret ?_
          have hco : coversAt f.b (plain m) j q = false := by unfold coversAt; rw [show newer (enB f.b j q) (plain m) = true by unfold newer enB; rw [hzs]; rw [show pget (En.key ⟨keyP zs, numTo zs 4, valP zs, j, q⟩) (plain m) = some o.en from (hms.get hg).2.2.2]; exact decide_eq_true (by simp only; omega), hzs, hbd]; rfl
          refine gx_ret1 (.inl rfl) Try.results40 rfl [3, 4, 5, 6, 7] (by decide) ?_
          exact ⟨by rw [spare_false (by omega) hco], rfl⟩
        · skip
          refine gl_op (op_rd rfl (rd_pick_f rfl rfl) ?_)
          refine gl_nil ?_
          refine gx_then ?_
          refine gc_cond_f rfl ?_
          refine gc_skip ?_
          refine gx_block ?_
          refine gx_then ?_
          refine gc_region ?_
          refine gl_op (op_rd rfl (by first | exact rd_addN (b := 1) rfl rfl (by omega) | exact rd_add rfl rfl (by omega) (by omega)) ?_)
          refine gl_op (op_rd rfl (rd_move rfl) ?_)
          refine gl_nil ?_
          refine gx_then ?_
          have hco : coversAt f.b (plain m) j q = true := by unfold coversAt; rw [show newer (enB f.b j q) (plain m) = false by unfold newer enB; rw [hzs]; rw [show pget (En.key ⟨keyP zs, numTo zs 4, valP zs, j, q⟩) (plain m) = some o.en from (hms.get hg).2.2.2]; exact decide_eq_false (by simp only; omega)]; simp
          exact gx_cut (q + 1) ⟨⟨by omega, fun i hi => by rcases (show i < q ∨ i = q by omega) with h | h; exact hcv i h; rw [h]; exact hco⟩, by omega⟩ ⟨rfl, rfl, rfl, trivial⟩ ⟨[3, 4, 5, 6, 7], by decide, rfl⟩
    · skip
      refine gl_nil ?_
      refine gx_then ?_
      refine gc_seq ?_
      refine gc_cond_t rfl ?_
      refine gc_skip ?_
      refine gx_then ?_
      refine gc_seq ?_
      refine gc_block ?_
      refine gc_seq ?_
      refine gc_region ?_
      refine gl_op (op_rd rfl (rd_move rfl) ?_)
      refine gl_op (op_rd rfl (rd_assign rfl) ?_)
      refine gl_nil ?_
      refine gx_then ?_
      refine gc_seq ?_
      refine gc_region ?_
      refine gl_op (op_rd rfl (rd_move rfl) ?_)
      refine gl_op (op_rd rfl (rd_nilCheck rfl) ?_)
      refine gl_op (op_rd rfl (rd_fieldAddr rfl (fa_81_1 _)) ?_)
      refine gl_op (op_rd rfl (rd_load Try.underlying25 rfl rfl (by first | exact ld_blk 0 rfl rfl | exact ld_blk 2 rfl rfl | exact ld_old (by assumption) (by simp) | exact ld_cells (by assumption) (by simp) rfl)) ?_)
      refine gl_op (op_rd rfl (rd_move rfl) ?_)
      refine gl_op (op_rd rfl (rd_move rfl) ?_)
      refine gl_op (op_rd rfl (rd_build rfl (fun _ => bd_94_0_1 _ _)) ?_)
      refine gl_op (op_call rfl (vf := []) (vc := []) rfl rfl Try.call67 (fun w1 ho => slot_q f hf bf gb cb rp cp w1 (ho.blkCells 2 rfl) hcb j q (by omega)) ?_)
      rintro _ _ ⟨rfl, rfl⟩
      refine gl_op (op_call rfl (vf := []) (vc := []) rfl rfl Try.call66 (fun w1 ho => unpack_bad zs hz8 hzl (some ⟨gb, j * 256 + q * 24, none⟩) (cb - (j * 256 + q * 24)) (by omega) w1 (by rw [← hzs]; unfold slotB; rw [← part_u8]; exact slPart (ho.rowSl 3 rfl) (j * 256 + q * 24) 24 (by omega)) hbd) ?_)
      rintro _ _ ⟨rfl, rfl⟩
      refine gl_op (op_rd rfl (rd_move rfl) ?_)
      refine gl_op (op_rd rfl (rd_extract rfl rfl) ?_)
      refine gl_op (op_rd rfl (rd_extract rfl rfl) ?_)
      refine gl_op (op_alloc ty_92 rfl rfl (fun b6 => ?_))
      first | refine gl_op (op_storeAgg 0 ty_92 rfl rfl rfl rfl rfl rfl (by first | rfl | (simp only [List.set_cons_succ, List.set_cons_zero]; exact rfl)) ?_) | refine gl_op (op_storeAgg 1 ty_92 rfl rfl rfl rfl rfl rfl (by first | rfl | (simp only [List.set_cons_succ, List.set_cons_zero]; exact rfl)) ?_) | refine gl_op (op_storeAgg 3 ty_92 rfl rfl rfl rfl rfl rfl (by first | rfl | (simp only [List.set_cons_succ, List.set_cons_zero]; exact rfl)) ?_) | refine gl_op (op_storeRowAgg 4 ty_92 rfl rfl rfl rfl rfl (by simp; omega) (by first | rfl | (simp only [List.set_cons_succ, List.set_cons_zero]; exact rfl)) ?_) | refine gl_op (op_storeRowAgg 5 ty_92 rfl rfl rfl rfl rfl (by simp; omega) (by first | rfl | (simp only [List.set_cons_succ, List.set_cons_zero]; exact rfl)) ?_)
      refine gl_op (op_rd rfl (rd_assign rfl) ?_)
      refine gl_nil ?_
      refine gx_then ?_
      refine gc_seq ?_
      refine gc_seq ?_
      refine gc_region ?_
      refine gl_op (op_rd rfl (rd_move rfl) ?_)
      refine gl_op (op_rd rfl (rd_not rfl) ?_)
      refine gl_nil ?_
      refine gx_then ?_
      refine gc_cond_t rfl ?_
      refine gc_exit ?_
      refine gx_then_exit ?_
      refine gx_block_exit ?_
      refine gx_then ?_
      refine gc_region ?_
      refine gl_op (op_rd rfl (by first | exact rd_addN (b := 1) rfl rfl (by omega) | exact rd_add rfl rfl (by omega) (by omega)) ?_)
      refine gl_op (op_rd rfl (rd_move rfl) ?_)
      refine gl_nil ?_
      refine gx_then ?_
      have hco : coversAt f.b (plain m) j q = true := by unfold coversAt; rw [hzs, hbd]; rfl
      exact gx_cut (q + 1) ⟨⟨by omega, fun i hi => by rcases (show i < q ∨ i = q by omega) with h | h; exact hcv i h; rw [h]; exact hco⟩, by omega⟩ ⟨rfl, rfl, rfl, trivial⟩ ⟨[1, 2, 3, 4, 5], by decide, rfl⟩
  · skip
    refine gl_nil ?_
    refine gx_then ?_
    refine gc_seq ?_
    refine gc_cond_f rfl ?_
    refine gc_exit ?_
    refine gx_then_exit ?_
    refine gx_then_exit ?_
    refine gx_block_exit ?_
    refine gx_then ?_
    refine gc_seq ?_
    refine gc_region ?_
    refine gl_op (op_rd rfl (rd_assign rfl) ?_)
    refine gl_nil ?_
    refine gx_then ?_
    refine gc_ret ?_
    refine gx_ret1 (.inl rfl) Try.results40 rfl [0, 1, 2, 3, 4] (by decide) ?_
    exact ⟨by rw [spare_true (fun i hi => hcv i (by omega))], rfl⟩

set_option maxRecDepth 100000 in
set_option maxHeartbeats 4000000 in
theorem room_q (f : Fl) (hf : f.Ok) (bs bf : Nat) (gb : Nat) (cb : Nat) (rp : Option Nat) (cp : Nat) (id bm num : Nat) (free : Int) (w0 : World) (hs : Cells w0 ⟨bs, 0, none⟩ [.bool true, .pointer (some ⟨bf, 0, none⟩), natV id, .map (some bm), .int .u32 (num : Nat), .int .i64 free]) (hc : Cells w0 ⟨bf, 0, none⟩ (f.cells (some gb) cb rp cp)) (hb : OldSl w0 [] (rowA (some gb)) f.b.length 1 (f.b.map u8V)) (hcb : f.b.length ≤ cb) : Sp Try.prog 48 [.pointer (some ⟨bs, 0, none⟩)] w0 [] (RoomR f.b free) := by
  have hbl := hf.hi
  have hbl0 := hf.lo
  have hblm := hf.len
  refine spec_enter Try.func48 rfl Try.ntmps48 rfl (Own.refl _) ?_
  simp only [argEnv]
  refine gc_seq ?_
  refine gc_region ?_
  refine gl_op (op_alloc ty_94 rfl rfl (fun b2 => ?_))
  refine gl_op (op_rd rfl (rd_assign rfl) ?_)
  refine gl_nil ?_
  refine gx_then ?_
  refine gc_scope ?_
  refine gc_seq ?_
  refine gc_region ?_
  refine gl_op (op_alloc ty_94 rfl rfl (fun b4 => ?_))
  refine gl_nil ?_
  refine gx_then ?_
  refine gc_seq ?_
  refine gc_region ?_
  refine gl_op (op_rd rfl (rd_assign rfl) ?_)
  refine gl_nil ?_
  refine gx_then ?_
  refine gc_seq ?_
  refine gc_label ?_
  refine gx_then ?_
  refine gc_seq ?_
  refine gc_seq ?_
  refine gc_region ?_
  refine gl_op (op_rd rfl (rd_move rfl) ?_)
  refine gl_op (op_rd rfl (rd_nilCheck rfl) ?_)
  refine gl_op (op_rd rfl (rd_fieldAddr rfl (fa_81_1 _)) ?_)
  refine gl_op (op_rd rfl (rd_load Try.underlying25 rfl rfl (ld_cells (j := 1) hs (by simp) rfl)) ?_)
  refine gl_op (op_call rfl (vf := []) (vc := []) rfl rfl Try.call33 (fun w1 ho => Blocks_q f hf bf (some gb) cb rp cp w1 (hc.at ho)) ?_)
  rintro _ _ ⟨rfl, rfl⟩
  refine gl_op (op_rd rfl (rd_move rfl) ?_)
  refine gl_nil ?_
  refine gx_then ?_
  refine gc_block ?_
  refine gc_loopF (ι := Nat × Nat × Nat) [(0, _), (2, _), (4, _), (12, _)] [_] (fun j => j.1 ≤ f.b.length / 256 ∧ ∀ bk sl, bk < j.1 → sl < 10 → (bk : Int) ≠ free → zerosP (slotB f.b bk sl) ≠ 0) (fun j Fr0 => ((5, .bool false) :: (13, natV j.1) :: Fr0)) (fun j Fr0 => (.blk b4 [natV j.2.1, natV j.2.2] 94 :: Fr0)) (fun j => f.b.length / 256 - j.1) (0, 0, 0) (⟨Nat.zero_le _, fun bk sl h => absurd h (Nat.not_lt_zero _)⟩) ⟨rfl, rfl, rfl, rfl, rfl, rfl, trivial⟩ ⟨[0, 1], by decide, rfl⟩ ?_
  rintro ⟨j, pb, ps⟩ ⟨hj, hno⟩
  simp only at hj hno ⊢
  refine gc_seq ?_
  refine gc_region ?_
  refine gl_op (op_rd rfl (rd_lss rfl rfl) (gk_dec (fun h14 => ?_) (fun h14 => ?_)))
  · skip
    refine gl_nil ?_
    refine gx_then ?_
    refine gc_seq ?_
    refine gc_cond_t rfl ?_
    refine gc_skip ?_
    refine gx_then ?_
    refine gc_seq ?_
    refine gc_block ?_
    refine gc_seq ?_
    refine gc_region ?_
    refine gl_op (op_rd rfl (rd_move rfl) ?_)
    refine gl_op (op_rd rfl (rd_assign rfl) ?_)
    refine gl_nil ?_
    refine gx_then ?_
    refine gc_seq ?_
    refine gc_region ?_
    refine gl_op (op_rd rfl (rd_move rfl) ?_)
    refine gl_nil ?_
    refine gx_then ?_
    refine gc_block ?_
    refine gc_loopF (ι := Nat × Nat × Nat) [(0, _), (2, _), (4, _), (6, _), (12, _), (13, _)] [_] (fun q => q.1 ≤ 10 ∧ ∀ sl, sl < q.1 → (j : Int) ≠ free → zerosP (slotB f.b j sl) ≠ 0) (fun q Fr0 => ((5, .bool false) :: (16, natV q.1) :: Fr0)) (fun q Fr0 => (.blk b4 [natV q.2.1, natV q.2.2] 94 :: Fr0)) (fun q => 10 - q.1) (0, pb, ps) (⟨Nat.zero_le _, fun sl h => absurd h (Nat.not_lt_zero _)⟩) ⟨rfl, rfl, rfl, rfl, rfl, rfl, rfl, rfl, trivial⟩ ⟨[0, 1], by decide, rfl⟩ ?_
    rintro ⟨q, pb, ps⟩ ⟨hq, hno2⟩
    simp only at hq hno2 ⊢
    refine gc_seq ?_
    refine gc_region ?_
    refine gl_op (op_rd rfl (rd_lss rfl rfl) (gk_dec (fun h17 => ?_) (fun h17 => ?_)))
    · skip
      refine gl_nil ?_
      refine gx_then ?_
      refine gc_seq ?_
      refine gc_cond_t rfl ?_
      refine gc_skip ?_
      refine gx_then ?_
      refine gc_seq ?_
      refine gc_block ?_
      refine gc_seq ?_
      refine gc_region ?_
      refine gl_op (op_rd rfl (rd_move rfl) ?_)
      refine gl_op (op_rd rfl (rd_assign rfl) ?_)
      refine gl_nil ?_
      refine gx_then ?_
      refine gc_seq ?_
      refine gc_seq ?_
      refine gc_region ?_
      refine gl_op (op_rd rfl (rd_move rfl) ?_)
      refine gl_op (op_rd rfl (rd_move rfl) ?_)
      refine gl_op (op_rd rfl (rd_nilCheck rfl) ?_)
      refine gl_op (op_rd rfl (rd_fieldAddr rfl (fa_81_5 _)) ?_)
      refine gl_op (op_rd rfl (rd_load Try.underlying3 rfl rfl (ld_cells (j := 5) hs (by simp) rfl)) ?_)
      refine gl_op (op_rd rfl (rd_eql rfl rfl) (gk_dec (fun h24 => ?_) (fun h24 => ?_)))
      · skip
        refine gl_nil ?_
        refine gx_then ?_
        refine gc_cond_t rfl ?_
        refine gc_exit ?_
        refine gx_then_exit ?_
        refine gx_block_pass rfl ?_
        refine gx_then_exit ?_
        refine gx_then_exit ?_
        refine gx_block_pass rfl ?_
        refine gx_block_exit ?_
        refine gx_then ?_
        refine gc_region ?_
        refine gl_op (op_rd rfl (by first | exact rd_addN (b := 1) rfl rfl (by omega) | exact rd_add rfl rfl (by omega) (by omega)) ?_)
        refine gl_op (op_rd rfl (rd_move rfl) ?_)
        refine gl_nil ?_
        refine gx_then ?_
        exact gx_cut ((j + 1, pb, ps)) ⟨⟨by simp only; omega, fun bk sl h1 h2 h3 => by simp only at h1; rcases (show bk < j ∨ bk = j by omega) with h | h; exact hno bk sl h h2 h3; subst h; exact absurd h24.symm (fun e => h3 e.symm)⟩, by simp only; omega⟩ ⟨rfl, rfl, rfl, rfl, rfl, rfl, trivial⟩ ⟨[0, 1], by decide, rfl⟩
      · skip
        obtain ⟨zs, hzs⟩ : ∃ zs, slotB f.b j q = zs := ⟨_, rfl⟩
        have hzl : zs.length = 24 := by rw [← hzs]; exact slot_len (by omega)
        have hz8 : ∀ z ∈ zs, z < 256 := by rw [← hzs]; exact slot_lt hf.bs j q
        refine gl_nil ?_
        refine gx_then ?_
        refine gc_cond_f rfl ?_
        refine gc_skip ?_
        refine gx_then ?_
        refine gc_seq ?_
        refine gc_region ?_
        refine gl_op (op_rd rfl (rd_move rfl) ?_)
        refine gl_op (op_rd rfl (rd_move rfl) ?_)
        refine gl_op (op_rd rfl (rd_build rfl (fun _ => bd_94_0_1 _ _)) ?_)
        first | refine gl_op (op_storeAgg 0 ty_94 rfl rfl rfl rfl rfl rfl (by first | rfl | (simp only [List.set_cons_succ, List.set_cons_zero]; exact rfl)) ?_) | refine gl_op (op_storeAgg 1 ty_94 rfl rfl rfl rfl rfl rfl (by first | rfl | (simp only [List.set_cons_succ, List.set_cons_zero]; exact rfl)) ?_)
        refine gl_nil ?_
        refine gx_then ?_
        refine gc_seq ?_
        refine gc_drawP [0, 1] true 6 rfl ?_
        refine ga_first 0 #[true, false, false, false, false, false, false] rfl rfl rfl rfl (by kernel_rfl) rfl ⟨[0, 1], by decide, rfl⟩ (qt_rd (rd_move rfl)) ?_
        refine ga_first 1 #[true, true, false, false, false, false, false] rfl rfl rfl rfl (by kernel_rfl) rfl ⟨[0, 1], by decide, rfl⟩ (qt_rd (rd_nilCheck rfl)) ?_
        refine ga_first 2 #[true, true, true, false, false, false, false] rfl rfl rfl rfl (by kernel_rfl) rfl ⟨[0, 1], by decide, rfl⟩ (qt_rd (rd_fieldAddr rfl (fa_81_1 _))) ?_
        refine ga_first 3 #[true, true, true, true, false, false, false] rfl rfl rfl rfl (by kernel_rfl) rfl ⟨[0, 1], by decide, rfl⟩ (qt_rd (rd_load Try.underlying25 rfl rfl (ld_cells (j := 1) hs (by simp) rfl))) ?_
        refine ga_first 4 #[true, true, true, true, true, false, false] rfl rfl rfl rfl (by kernel_rfl) rfl ⟨[0, 1], by decide, rfl⟩ (qt_rd (rd_loadAgg Try.underlying94 rfl ty_94 rfl (by first | exact cs_blk 0 (off := 0) (k := 2) rfl rfl | exact cs_blk 1 (off := 0) (k := 2) rfl rfl | exact cs_old (by assumption) (by simp)) rfl)) ?_
        refine ga_first 5 #[true, true, true, true, true, true, false] rfl rfl rfl rfl (by kernel_rfl) rfl ⟨[0, 1], by decide, rfl⟩ (qt_call (vf := []) (vc := []) rfl rfl Try.call67 (fun w1 ho => slot_q f hf bf gb cb rp cp w1 (hc.at ho) hcb j q (by omega)) (by rintro _ _ ⟨h, _⟩; exact h)) ?_
        refine ga_first 6 #[true, true, true, true, true, true, true] rfl rfl rfl rfl (by kernel_rfl) rfl ⟨[0, 1], by decide, rfl⟩ (qt_call (vf := []) (vc := []) rfl rfl Try.call65 (fun w1 ho => by have h := empty_ok zs hz8 (some ⟨gb, j * 256 + q * 24, none⟩) (cb - (j * 256 + q * 24)) w1 (by rw [hzl, ← hzs]; unfold slotB; rw [← part_u8]; exact slPart (hb.at ho) (j * 256 + q * 24) 24 (by omega)) (by omega); rw [hzl] at h; exact h) (by rintro _ _ ⟨h, _⟩; exact h)) ?_
        refine gk_bool (fun hem => ?_) (fun hem => ?_)
        · skip
          refine ga_end (by kernel_rfl) (.inr ⟨[0, 1], by decide, rfl⟩) ?_
          refine gx_then ?_
          refine gc_cond_t rfl ?_
          refine gc_seq ?_
          refine gc_region ?_
          refine gl_op (op_rd rfl (rd_assign rfl) ?_)
          refine gl_nil ?_
          refine gx_then ?_
          refine gc_exit ?_
          refine gx_block_pass rfl ?_
          refine gx_then_exit ?_
          refine gx_then_exit ?_
          refine gx_block_pass rfl ?_
          refine gx_block_pass rfl ?_
          refine gx_then_exit ?_
          refine gx_then_exit ?_
          refine gx_block_exit ?_
          refine gx_then ?_
          refine gc_seq ?_
          refine gc_region ?_
          refine gl_op (op_rd rfl (rd_loadAgg Try.underlying94 rfl ty_94 rfl (by first | exact cs_blk 0 (off := 0) (k := 2) rfl rfl | exact cs_blk 1 (off := 0) (k := 2) rfl rfl | exact cs_old (by assumption) (by simp)) rfl) ?_)
          refine gl_op (op_rd rfl (rd_move rfl) ?_)
          first | refine gl_op (op_storeAgg 0 ty_94 rfl rfl rfl rfl rfl rfl (by first | rfl | (simp only [List.set_cons_succ, List.set_cons_zero]; exact rfl)) ?_) | refine gl_op (op_storeAgg 1 ty_94 rfl rfl rfl rfl rfl rfl (by first | rfl | (simp only [List.set_cons_succ, List.set_cons_zero]; exact rfl)) ?_)
          refine gl_op (op_rd rfl (rd_assign rfl) ?_)
          refine gl_nil ?_
          refine gx_then ?_
          refine gc_ret ?_
          refine gx_scope_ret ?_
          refine gx_retV2 (.inl rfl) Try.results48 (rv_agg Try.underlying94 rfl ty_94 rfl (by rfl) (cs_blk 1 (off := 0) (k := 2) rfl rfl)) (rv_tmp rfl) [] (by decide) ?_
          exact ⟨rfl, .inl ⟨j, q, rfl, by omega, by omega, fun e => h24 e, by rw [hzs]; exact of_decide_eq_true hem⟩⟩
        · skip
          refine ga_end (by kernel_rfl) (.inr ⟨[0, 1], by decide, rfl⟩) ?_
          refine gx_then ?_
          refine gc_cond_f rfl ?_
          refine gc_skip ?_
          refine gx_block ?_
          refine gx_then ?_
          refine gc_region ?_
          refine gl_op (op_rd rfl (by first | exact rd_addN (b := 1) rfl rfl (by omega) | exact rd_add rfl rfl (by omega) (by omega)) ?_)
          refine gl_op (op_rd rfl (rd_move rfl) ?_)
          refine gl_nil ?_
          refine gx_then ?_
          exact gx_cut ((q + 1, j, q)) ⟨⟨by simp only; omega, fun sl h1 h3 => by simp only at h1; rcases (show sl < q ∨ sl = q by omega) with h | h; exact hno2 sl h h3; rw [h, hzs]; exact of_decide_eq_false hem⟩, by simp only; omega⟩ ⟨rfl, rfl, rfl, rfl, rfl, rfl, rfl, rfl, trivial⟩ ⟨[0, 1], by decide, rfl⟩
    · skip
      refine gl_nil ?_
      refine gx_then ?_
      refine gc_seq ?_
      refine gc_cond_f rfl ?_
      refine gc_exit ?_
      refine gx_then_exit ?_
      refine gx_then_exit ?_
      refine gx_block_exit ?_
      refine gx_block ?_
      refine gx_then ?_
      refine gc_region ?_
      refine gl_op (op_rd rfl (by first | exact rd_addN (b := 1) rfl rfl (by omega) | exact rd_add rfl rfl (by omega) (by omega)) ?_)
      refine gl_op (op_rd rfl (rd_move rfl) ?_)
      refine gl_nil ?_
      refine gx_then ?_
      exact gx_cut ((j + 1, pb, ps)) ⟨⟨by simp only; omega, fun bk sl h1 h2 h3 => by simp only at h1; rcases (show bk < j ∨ bk = j by omega) with h | h; exact hno bk sl h h2 h3; subst h; exact hno2 sl (by omega) h3⟩, by simp only; omega⟩ ⟨rfl, rfl, rfl, rfl, rfl, rfl, trivial⟩ ⟨[0, 1], by decide, rfl⟩
  · skip
    refine gl_nil ?_
    refine gx_then ?_
    refine gc_seq ?_
    refine gc_cond_f rfl ?_
    refine gc_exit ?_
    refine gx_then_exit ?_
    refine gx_then_exit ?_
    refine gx_block_exit ?_
    refine gx_then ?_
    refine gc_seq ?_
    refine gc_region ?_
    refine gl_op (op_rd rfl (rd_loadAgg Try.underlying94 rfl ty_94 rfl (by first | exact cs_blk 0 (off := 0) (k := 2) rfl rfl | exact cs_blk 1 (off := 0) (k := 2) rfl rfl | exact cs_old (by assumption) (by simp)) rfl) ?_)
    refine gl_op (op_rd rfl (rd_move rfl) ?_)
    first | refine gl_op (op_storeAgg 0 ty_94 rfl rfl rfl rfl rfl rfl (by first | rfl | (simp only [List.set_cons_succ, List.set_cons_zero]; exact rfl)) ?_) | refine gl_op (op_storeAgg 1 ty_94 rfl rfl rfl rfl rfl rfl (by first | rfl | (simp only [List.set_cons_succ, List.set_cons_zero]; exact rfl)) ?_)
    refine gl_op (op_rd rfl (rd_assign rfl) ?_)
    refine gl_nil ?_
    refine gx_then ?_
    refine gc_ret ?_
    refine gx_scope_ret ?_
    refine gx_retV2 (.inl rfl) Try.results48 (rv_agg Try.underlying94 rfl ty_94 rfl (by rfl) (cs_blk 1 (off := 0) (k := 2) rfl rfl)) (rv_tmp rfl) [] (by decide) ?_
    exact ⟨rfl, .inr ⟨pb, ps, rfl, fun bk sl h1 h2 h3 => hno bk sl (by omega) h2 h3⟩⟩

end Go.Proofs.Ythcbcdjkfefnlaa

set_option autoImplicit false
set_option linter.unusedVariables false
namespace Go.Proofs.Ythcbcdjkfefnlaa
open Go.Gv
open Go.RowKit
open Iv
namespace Iv
abbrev EmptyBk (b : List Nat) (bk : Nat) : Prop := zerosP ((b.drop (bk * 256)).take 256) = 0
def NoEmpty (b : List Nat) : Prop := ∀ bk, bk < b.length / 256 → ¬ EmptyBk b bk
def spareB (b : List Nat) (bk : Nat) : Bool := spareP b (scanP b bk 0).2 bk
def NumB (b : List Nat) (N : Nat) : Prop := ∀ bk sl, bk < b.length / 256 → sl < 10 → badP (slotB b bk sl) = false → (enB b bk sl).num ≤ N
theorem scStep_2 (b : List Nat) (but : Int) (bk : Nat) (n n' : Nat) (P : List En) (sl : Nat) : (scStep b but bk (n, P) sl).2 = (scStep b but bk (n', P) sl).2 := by
  unfold scStep; split <;> rfl
theorem scBlk_2 (b : List Nat) (but : Int) (bk : Nat) (n n' : Nat) (P : List En) : ∀ k, (scBlkTo b but bk (n, P) k).2 = (scBlkTo b but bk (n', P) k).2
  | 0 => rfl
  | k + 1 => by
    rw [scBlk_succ, scBlk_succ]
    have ih := scBlk_2 b but bk n n' P k
    obtain ⟨a, hA⟩ : ∃ a, scBlkTo b but bk (n, P) k = a := ⟨_, rfl⟩
    obtain ⟨c, hC⟩ : ∃ c, scBlkTo b but bk (n', P) k = c := ⟨_, rfl⟩
    rw [hA, hC] at ih ⊢
    obtain ⟨a1, a2⟩ := a
    obtain ⟨c1, c2⟩ := c
    simp only at ih
    subst ih
    exact scStep_2 b but bk a1 c1 a2 k
theorem scTo_2 (b : List Nat) (but : Int) (n n' : Nat) : ∀ k, (scTo b but n k).2 = (scTo b but n' k).2
  | 0 => rfl
  | k + 1 => by
    rw [scTo_succ, scTo_succ]
    have ih := scTo_2 b but n n' k
    obtain ⟨a, hA⟩ : ∃ a, scTo b but n k = a := ⟨_, rfl⟩
    obtain ⟨c, hC⟩ : ∃ c, scTo b but n' k = c := ⟨_, rfl⟩
    rw [hA, hC] at ih ⊢
    obtain ⟨a1, a2⟩ := a
    obtain ⟨c1, c2⟩ := c
    simp only at ih
    subst ih
    exact scBlk_2 b but k a1 c1 a2 10
theorem scan_2 (b : List Nat) (but : Int) (n n' : Nat) : (scanP b but n).2 = (scanP b but n').2 := scTo_2 b but n n' _
theorem scStep_num {b : List Nat} {N : Nat} (hN : NumB b N) {but : Int} {bk sl : Nat} (h1 : bk < b.length / 256) (h2 : sl < 10) {s : Nat × List En} (hs : s.1 ≤ N) : (scStep b but bk s sl).1 ≤ N := by
  unfold scStep
  split
  · exact hs
  · rename_i h
    have hb : badP (slotB b bk sl) = false := by
      cases h' : badP (slotB b bk sl) with
      | false => rfl
      | true => exact absurd (.inl h') h
    exact Nat.max_le.2 ⟨hs, hN bk sl h1 h2 hb⟩
theorem scBlk_num {b : List Nat} {N : Nat} (hN : NumB b N) {but : Int} {bk : Nat} (h1 : bk < b.length / 256) {s : Nat × List En} (hs : s.1 ≤ N) : ∀ k, k ≤ 10 → (scBlkTo b but bk s k).1 ≤ N
  | 0, _ => hs
  | k + 1, h => by rw [scBlk_succ]; exact scStep_num hN h1 (by omega) (scBlk_num hN h1 hs k (by omega))
theorem scTo_num {b : List Nat} {N : Nat} (hN : NumB b N) {but : Int} {n : Nat} (hn : n ≤ N) : ∀ k, k ≤ b.length / 256 → (scTo b but n k).1 ≤ N
  | 0, _ => hn
  | k + 1, h => by rw [scTo_succ]; exact scBlk_num hN (by omega) (scTo_num hN hn k (by omega)) 10 (by omega)
theorem scan_num {b : List Nat} {N : Nat} (hN : NumB b N) {but : Int} {n : Nat} (hn : n ≤ N) : (scanP b but n).1 ≤ N := scTo_num hN hn _ (Nat.le_refl _)
/-- the flash and the free block behind Open -/
def OpenedAt (f1 f2 : Fl) (bk : Nat) : Prop := bk < f1.b.length / 256 ∧ ((f2 = f1 ∧ EmptyBk f1.b bk) ∨ (NoEmpty f1.b ∧ spareB f1.b bk = true ∧ flErase f1 (bk : Int) = (f2, 0)))
end Iv

set_option maxRecDepth 100000 in
set_option maxHeartbeats 4000000 in
theorem Open_ok (f : Fl) (hf : f.Ok) (bf : Nat) (rb : Option Nat) (cb : Nat) (rp : Option Nat) (cp : Nat) (S : List Nat) (w0 : World) (hown : Own w0 S w0 (FlH bf rb cb rp cp f)) (hst : f.st + 1 < 4611686018427387904) (her : f.er + 2 < 4611686018427387904) (hdn : f.down = false) : Sp Try.prog 11 [.pointer (some ⟨bf, 0, none⟩)] w0 S (fun v L => (∃ (bs bm : Nat) (m : List (ME He)) (nb : Nat) (T : List HL) (num num0 : Nat) (f2 : Fl) (bk : Nat), v = .tuple #[.pointer (some ⟨bs, 0, none⟩), .int .i64 0] ∧ OpenedAt { f with st := f.st + 1 } f2 bk ∧ f2.Ok ∧ f2.b.length = f.b.length ∧ (∀ N, NumB f.b N → num0 ≤ N) ∧ (num, plain m) = scanP f2.b (-1) num0 ∧ num < 4294967296 ∧ MSt m nb T ∧ L = (.blk bs [.bool true, .pointer (some ⟨bf, 0, none⟩), natV (f.st + 1), .map (some bm), .int .u32 ((num : Nat) : Int), .int .i64 ((bk : Nat) : Int)] 81 :: .obj bm (mapO HV m nb) :: (FlH bf rb cb rp cp f2 ++ T))) ∨ (∃ bk : Nat, bk < f.b.length / 256 ∧ NoEmpty f.b ∧ spareB f.b bk = true ∧ (flErase { f with st := f.st + 1 } (bk : Int)).2 ≠ 0 ∧ v = .tuple #[.pointer none, .int .i64 (flErase { f with st := f.st + 1 } (bk : Int)).2] ∧ L = FlH bf rb cb rp cp (flErase { f with st := f.st + 1 } (bk : Int)).1) ∨ (NoEmpty f.b ∧ (∀ bk, bk < f.b.length / 256 → spareB f.b bk = false) ∧ v = .tuple #[.pointer none, .int .i64 6] ∧ L = FlH bf rb cb rp cp { f with st := f.st + 1 })) := by
  have hbl := hf.hi
  have hbl0 := hf.lo
  have hblm := hf.len
  refine spec_enter Try.func11 rfl Try.ntmps11 rfl hown ?_
  simp only [argEnv]
  refine gc_seq ?_
  refine gc_region ?_
  refine gl_op (op_rd rfl (rd_assign rfl) ?_)
  refine gl_op (op_rd rfl (rd_assign rfl) ?_)
  refine gl_nil ?_
  refine gx_then ?_
  refine gc_seq ?_
  refine gc_block ?_
  refine gc_seq ?_
  refine gc_region ?_
  refine gl_op (op_rd rfl (rd_move rfl) ?_)
  refine gl_op (op_call rfl (vf := []) (vc := []) rfl rfl Try.call37 (fun w1 ho => none_q f hf bf rb cb rp cp w1 (ho.blkCells 0 rfl)) ?_)
  rintro _ _ ⟨rfl, rfl⟩
  refine gl_op (op_rd rfl (rd_assign rfl) ?_)
  refine gl_nil ?_
  refine gx_then ?_
  refine gc_cond_f rfl ?_
  refine gc_seq ?_
  refine gc_region ?_
  refine gl_op (op_rd rfl (rd_move rfl) ?_)
  refine gl_op (op_rd rfl (rd_nilCheck rfl) ?_)
  refine gl_op (op_rd rfl (rd_fieldAddr rfl (fa_72_4 _)) ?_)
  refine gl_op (op_rd rfl (rd_load Try.underlying4 rfl rfl (by first | exact ld_blk 0 rfl rfl | exact ld_rowN 1 rfl (get_bools (by omega)) | exact ld_rowN 2 rfl (get_bools (by omega)) | exact ld_slN (by assumption) (get_bools (by omega)) | exact ld_old (by assumption) (by simp) | exact ld_cells (by assumption) (by simp) rfl)) ?_)
  refine gk_bool (fun hd => ?_) (fun hd => ?_)
  · skip
    rw [hdn] at hd; cases hd
  · skip
    refine gl_op (op_rd rfl (rd_assign rfl) ?_)
    refine gl_nil ?_
    refine gx_then ?_
    refine gc_cond_f rfl ?_
    refine gc_skip ?_
    refine gx_block ?_
    refine gx_then ?_
    refine gc_seq ?_
    refine gc_region ?_
    refine gl_op (op_rd rfl (rd_move rfl) ?_)
    refine gl_op (op_rd rfl (rd_nilCheck rfl) ?_)
    refine gl_op (op_rd rfl (rd_fieldAddr rfl (fa_72_7 _)) ?_)
    refine gl_op (op_rd rfl (rd_load Try.underlying3 rfl rfl (by first | exact ld_blk 0 rfl rfl | exact ld_rowN 1 rfl (get_nats (by omega)) | exact ld_rowN 2 rfl (get_nats (by omega)) | exact ld_slN (by assumption) (get_nats (by omega)) | exact ld_rowN 1 rfl (get_ints (by omega)) | exact ld_rowN 2 rfl (get_ints (by omega)) | exact ld_slN (by assumption) (get_ints (by omega)) | exact ld_old (by assumption) (by simp) | exact ld_cells (by assumption) (by simp) rfl)) ?_)
    refine gl_op (op_rd rfl (by first | exact rd_addN (b := 1) rfl rfl (by omega) | exact rd_add rfl rfl (by omega) (by omega)) ?_)
    refine gl_op (op_rd rfl (rd_nilCheck rfl) ?_)
    refine gl_op (op_rd rfl (rd_fieldAddr rfl (fa_72_7 _)) ?_)
    first | refine gl_op (op_store 0 ty_3 rfl rfl rfl rfl rfl (by first | rfl | (simp only [List.set_cons_succ, List.set_cons_zero]; exact rfl)) (by first | rfl | (simp only [List.set_cons_succ, List.set_cons_zero]; exact rfl)) ?_) | refine gl_op (op_storeRow 1 ty_3 rfl rfl rfl rfl (by simp; omega) (by first | rfl | (simp only [List.set_cons_succ, List.set_cons_zero]; exact rfl)) ?_) | refine gl_op (op_storeRow 2 ty_3 rfl rfl rfl rfl (by simp; omega) (by first | rfl | (simp only [List.set_cons_succ, List.set_cons_zero]; exact rfl)) ?_)
    refine gl_nil ?_
    refine gx_then ?_
    refine gc_seq ?_
    have hf1 : ({ f with st := f.st + 1 } : Fl).Ok := ⟨hf.bs, hf.ps, hf.len, hf.lo, hf.hi, hf.pl, hf.pr, hf.er, hst, hf.l0, hf.l1⟩
    change GK _ _ _ _ _ [.blk bf (Fl.cells { f with st := f.st + 1 } rb cb rp cp) 72, .row 5 1 rb (Fl.b { f with st := f.st + 1 }).length cb ((Fl.b { f with st := f.st + 1 }).map u8V), .row 5 1 rp (Fl.picks { f with st := f.st + 1 }).length cp ((Fl.picks { f with st := f.st + 1 }).map u8V)]
    obtain ⟨f1, hf1e⟩ : ∃ f1, f1 = ({ f with st := f.st + 1 } : Fl) := ⟨_, rfl⟩
    rw [← hf1e] at hf1 ⊢
    have hb1 : f1.b = f.b := by rw [hf1e]
    have hls : f1.b.length = f.b.length := by rw [hb1]
    have hst1 : f1.st = f.st + 1 := by rw [hf1e]
    have hm1 : f1.er ≤ f.er := by rw [hf1e]; exact Nat.le_refl _
    refine gc_region ?_
    refine gl_op (op_rd rfl (rd_move rfl) ?_)
    refine gl_op (op_rd rfl (rd_move rfl) ?_)
    refine gl_op (op_rd rfl (rd_nilCheck rfl) ?_)
    refine gl_op (op_rd rfl (rd_fieldAddr rfl (fa_72_7 _)) ?_)
    refine gl_op (op_rd rfl (rd_load Try.underlying3 rfl rfl (by first | exact ld_blk 0 rfl rfl | exact ld_rowN 1 rfl (get_nats (by omega)) | exact ld_rowN 2 rfl (get_nats (by omega)) | exact ld_slN (by assumption) (get_nats (by omega)) | exact ld_rowN 1 rfl (get_ints (by omega)) | exact ld_rowN 2 rfl (get_ints (by omega)) | exact ld_slN (by assumption) (get_ints (by omega)) | exact ld_old (by assumption) (by simp) | exact ld_cells (by assumption) (by simp) rfl)) ?_)
    refine gl_op (op_rd rfl (rd_build rfl (fun _ => bd_81_0_1_2_5 _ _ _ _)) ?_)
    refine gl_op (op_box rfl rfl rfl (fun b29 => ?_))
    refine gl_op (op_rd rfl (rd_assign rfl) ?_)
    refine gl_nil ?_
    refine gx_then ?_
    refine gc_seq ?_
    refine gc_seq ?_
    refine gc_region ?_
    refine gl_op (op_rd rfl (rd_move rfl) ?_)
    refine gl_op (op_call rfl (vf := []) (vc := []) rfl rfl Try.call33 (fun w1 ho => Blocks_q f1 hf1 bf rb cb rp cp w1 (ho.blkCells 1 rfl)) ?_)
    rintro _ _ ⟨rfl, rfl⟩
    refine gl_op (op_rd rfl (rd_move rfl) ?_)
    refine gl_nil ?_
    refine gx_then ?_
    refine gc_block ?_
    refine gc_loopF (ι := Nat × Int) [(0, _), (4, _), (31, _)] [_, _, _] (fun j => j.1 ≤ f1.b.length / 256 ∧ ((j.2 = -1 ∧ ∀ bk, bk < j.1 → ¬ EmptyBk f1.b bk) ∨ ∃ bk : Nat, j.2 = (bk : Int) ∧ bk < f1.b.length / 256 ∧ EmptyBk f1.b bk)) (fun j Fr0 => ((32, natV j.1) :: Fr0)) (fun j Fr0 => (.blk b29 [.bool true, .pointer (some ⟨bf, 0, none⟩), natV f1.st, .map none, .int .u32 ((0 : Nat) : Int), .int .i64 j.2] 81 :: Fr0)) (fun j => f1.b.length / 256 - j.1) (0, -1) (⟨Nat.zero_le _, .inl ⟨rfl, fun bk h => absurd h (Nat.not_lt_zero _)⟩⟩) ⟨rfl, rfl, rfl, rfl, trivial⟩ ⟨[0, 1, 2, 3], by decide, rfl⟩ ?_
    rintro ⟨j, fr⟩ ⟨hj, hfr⟩
    simp only at hj hfr ⊢
    refine gc_seq ?_
    refine gc_region ?_
    refine gl_op (op_rd rfl (rd_lss rfl rfl) (gk_dec (fun h33 => ?_) (fun h33 => ?_)))
    · skip
      refine gl_nil ?_
      refine gx_then ?_
      refine gc_seq ?_
      refine gc_cond_t rfl ?_
      refine gc_skip ?_
      refine gx_then ?_
      refine gc_seq ?_
      refine gc_block ?_
      refine gc_seq ?_
      refine gc_region ?_
      refine gl_op (op_rd rfl (rd_move rfl) ?_)
      refine gl_op (op_rd rfl (rd_assign rfl) ?_)
      refine gl_nil ?_
      refine gx_then ?_
      refine gc_seq ?_
      refine gc_region ?_
      refine gl_op (op_rd rfl (rd_move rfl) ?_)
      refine gl_op (op_rd rfl (rd_move rfl) ?_)
      refine gl_op (op_callM [1, 2, 3] [0] rfl (vf := []) (vc := []) rfl rfl Try.call38 (by decide) rfl (fun w how hc => isEmpty_ok f1 hf1 bf rb cb rp cp _ w hc j (by omega)) ?_)
      rintro _ _ ⟨rfl, rfl⟩
      refine gk_bool (fun hem => ?_) (fun hem => ?_)
      · skip
        refine gl_nil ?_
        refine gx_then ?_
        refine gc_cond_t rfl ?_
        refine gc_region ?_
        refine gl_op (op_rd rfl (rd_move rfl) ?_)
        refine gl_op (op_rd rfl (rd_move rfl) ?_)
        refine gl_op (op_rd rfl (rd_nilCheck rfl) ?_)
        refine gl_op (op_rd rfl (rd_fieldAddr rfl (fa_81_5 _)) ?_)
        first | refine gl_op (op_store 0 ty_3 rfl rfl rfl rfl rfl (by first | rfl | (simp only [List.set_cons_succ, List.set_cons_zero]; exact rfl)) (by first | rfl | (simp only [List.set_cons_succ, List.set_cons_zero]; exact rfl)) ?_) | refine gl_op (op_store 3 ty_3 rfl rfl rfl rfl rfl (by first | rfl | (simp only [List.set_cons_succ, List.set_cons_zero]; exact rfl)) (by first | rfl | (simp only [List.set_cons_succ, List.set_cons_zero]; exact rfl)) ?_) | refine gl_op (op_storeRow 1 ty_3 rfl rfl rfl rfl (by simp; omega) (by first | rfl | (simp only [List.set_cons_succ, List.set_cons_zero]; exact rfl)) ?_) | refine gl_op (op_storeRow 2 ty_3 rfl rfl rfl rfl (by simp; omega) (by first | rfl | (simp only [List.set_cons_succ, List.set_cons_zero]; exact rfl)) ?_)
        refine gl_nil ?_
        refine gx_block ?_
        refine gx_then ?_
        refine gc_region ?_
        refine gl_op (op_rd rfl (by first | exact rd_addN (b := 1) rfl rfl (by omega) | exact rd_add rfl rfl (by omega) (by omega)) ?_)
        refine gl_op (op_rd rfl (rd_move rfl) ?_)
        refine gl_nil ?_
        refine gx_then ?_
        exact gx_cut ((j + 1, (j : Int))) ⟨⟨by simp only; omega, .inr ⟨j, rfl, by omega, of_decide_eq_true hem⟩⟩, by simp only; omega⟩ ⟨rfl, rfl, rfl, rfl, trivial⟩ ⟨[3, 0, 1, 2], by decide, rfl⟩
      · skip
        refine gl_nil ?_
        refine gx_then ?_
        refine gc_cond_f rfl ?_
        refine gc_skip ?_
        refine gx_block ?_
        refine gx_then ?_
        refine gc_region ?_
        refine gl_op (op_rd rfl (by first | exact rd_addN (b := 1) rfl rfl (by omega) | exact rd_add rfl rfl (by omega) (by omega)) ?_)
        refine gl_op (op_rd rfl (rd_move rfl) ?_)
        refine gl_nil ?_
        refine gx_then ?_
        exact gx_cut ((j + 1, fr)) ⟨⟨by simp only; omega, by rcases hfr with ⟨h1, h2⟩ | h; exact .inl ⟨h1, fun bk hbk => by simp only at hbk; rcases (show bk < j ∨ bk = j by omega) with h3 | h3; exact h2 bk h3; rw [h3]; exact of_decide_eq_false hem⟩; exact .inr h⟩, by simp only; omega⟩ ⟨rfl, rfl, rfl, rfl, trivial⟩ ⟨[3, 0, 1, 2], by decide, rfl⟩
    · skip
      refine gl_nil ?_
      refine gx_then ?_
      refine gc_seq ?_
      refine gc_cond_f rfl ?_
      refine gc_exit ?_
      refine gx_then_exit ?_
      refine gx_then_exit ?_
      refine gx_block_exit ?_
      refine gx_then ?_
      refine gc_seq ?_
      refine gc_seq ?_
      have hfr2 : fr = -1 ∧ NoEmpty f1.b ∨ ∃ bk : Nat, fr = (bk : Int) ∧ bk < f1.b.length / 256 ∧ EmptyBk f1.b bk := by
        rcases hfr with ⟨h1, h2⟩ | h
        · exact .inl ⟨h1, fun bk hbk => h2 bk (by omega)⟩
        · exact .inr h
      clear hfr
      have hne : fr < 0 → NoEmpty f1.b := fun h => by
        rcases hfr2 with ⟨_, h2⟩ | ⟨bk, h1, _⟩
        · exact h2
        · omega
      refine gc_region ?_
      refine gl_op (op_rd rfl (rd_assign rfl) ?_)
      refine gl_nil ?_
      refine gx_then ?_
      refine gc_block ?_
      refine gc_loopF (ι := Nat × Option Nat × Nat × Fl × Int) [(0, _), (4, _)] [] (fun i => i.1 ≤ f1.b.length / 256 ∧ i.2.2.1 < 4294967296 ∧ (∀ N, NumB f1.b N → i.2.2.1 ≤ N) ∧ i.2.2.2.1.Ok ∧ i.2.2.2.1.b.length = f1.b.length ∧ i.2.2.2.1.er ≤ f.er + 1 ∧ ((i.2.2.2.1 = f1 ∧ i.2.2.2.2 = fr ∧ (fr < 0 → ∀ bk, bk < i.1 → spareB f1.b bk = false)) ∨ (fr < 0 ∧ ∃ bk : Nat, bk < f1.b.length / 256 ∧ i.2.2.2.2 = (bk : Int) ∧ spareB f1.b bk = true ∧ flErase f1 (bk : Int) = (i.2.2.2.1, 0)))) (fun i Fr0 => ((6, natV i.1) :: Fr0)) (fun i Fr0 => (.blk b29 [.bool true, .pointer (some ⟨bf, 0, none⟩), natV f1.st, .map i.2.1, .int .u32 ((i.2.2.1 : Nat) : Int), .int .i64 i.2.2.2.2] 81 :: .blk bf (Fl.cells i.2.2.2.1 rb cb rp cp) 72 :: .row 5 1 rb (Fl.b i.2.2.2.1).length cb ((Fl.b i.2.2.2.1).map u8V) :: .row 5 1 rp (Fl.picks i.2.2.2.1).length cp ((Fl.picks i.2.2.2.1).map u8V) :: Fr0)) (fun i => f.b.length / 256 - i.1) (0, none, 0, f1, fr) (⟨Nat.zero_le _, (by decide : (0 : Nat) < 4294967296), fun _ _ => Nat.zero_le _, hf1, rfl, (Nat.le_succ_of_le hm1), .inl ⟨rfl, rfl, fun _ bk h => absurd h (Nat.not_lt_zero _)⟩⟩) ⟨rfl, rfl, rfl, trivial⟩ ⟨[0, 1, 2, 3], by decide, rfl⟩ ?_
      rintro ⟨j, mv, nu, f2, fr2⟩ ⟨hj, hnul, hnu, hf2, hl2, her2, hcase⟩
      simp only at hj hnul hnu hf2 hl2 her2 hcase ⊢
      refine gc_seq ?_
      refine gc_seq ?_
      refine gc_region ?_
      refine gl_op (op_rd rfl (rd_move rfl) ?_)
      refine gl_op (op_rd rfl (rd_move rfl) ?_)
      refine gl_op (op_call rfl (vf := []) (vc := []) rfl rfl Try.call33 (fun w1 ho => Blocks_q f2 hf2 bf rb cb rp cp w1 (ho.blkCells 1 rfl)) ?_)
      rintro _ _ ⟨rfl, rfl⟩
      refine gl_op (op_rd rfl (rd_lss rfl rfl) (gk_dec (fun h46 => ?_) (fun h46 => ?_)))
      · skip
        refine gl_op (op_rd rfl (rd_move rfl) ?_)
        refine gl_yes rfl rfl (op_rd rfl (rd_move rfl) ?_)
        refine gl_yes rfl rfl (op_rd rfl (rd_nilCheck rfl) ?_)
        refine gl_yes rfl rfl (op_rd rfl (rd_fieldAddr rfl (fa_81_5 _)) ?_)
        refine gl_yes rfl rfl (op_rd rfl (rd_load Try.underlying3 rfl rfl (by first | exact ld_blk 0 rfl rfl | exact ld_blk 1 rfl rfl | exact ld_rowN 2 rfl (get_nats (by omega)) | exact ld_rowN 3 rfl (get_nats (by omega)) | exact ld_slN (by assumption) (get_nats (by omega)) | exact ld_rowN 2 rfl (get_ints (by omega)) | exact ld_rowN 3 rfl (get_ints (by omega)) | exact ld_slN (by assumption) (get_ints (by omega)) | exact ld_old (by assumption) (by simp) | exact ld_cells (by assumption) (by simp) rfl)) ?_)
        refine gl_yes rfl rfl (op_rd rfl (rd_lss rfl rfl) (gk_dec (fun h52 => ?_) (fun h52 => ?_)))
        · skip
          obtain ⟨rfl, rfl, hns⟩ : f1 = f2 ∧ fr = fr2 ∧ (fr < 0 → ∀ bk, bk < j → spareB f1.b bk = false) := by
            rcases hcase with h | ⟨_, bk, _, h3, _⟩
            · exact ⟨h.1.symm, h.2.1.symm, h.2.2⟩
            · omega
          clear hcase
          have hfr0 := h52
          refine gl_op (op_rd rfl (rd_pick_t rfl rfl) ?_)
          refine gl_nil ?_
          refine gx_then ?_
          refine gc_cond_t rfl ?_
          refine gc_skip ?_
          refine gx_then ?_
          refine gc_seq ?_
          refine gc_block ?_
          refine gc_seq ?_
          refine gc_region ?_
          refine gl_op (op_rd rfl (rd_move rfl) ?_)
          refine gl_op (op_rd rfl (rd_move rfl) ?_)
          refine gl_op (op_callM [0, 1, 2, 3] [] rfl (vf := []) (vc := []) rfl rfl Try.call39 (by decide) rfl (fun w how hc => scan_ok f1 hf1 b29 bf rb cb rp cp f1.st nu mv fr (j : Int) _ w hc hnul) ?_)
          rintro _ _ ⟨bm, m, nb, T, nu2, rfl, hms, hsc, hnu2, rfl⟩
          refine gk_mid [_, _, _, _, _] T [] ?_
          refine gl_nil ?_
          refine gx_then ?_
          refine gc_seq ?_
          refine gc_region ?_
          refine gl_op (op_rd rfl (rd_move rfl) ?_)
          refine gl_op (op_rd rfl (rd_move rfl) ?_)
          refine gl_op (op_callMT [_, _, _, _, _] T [0, 1, 2, 3, 4] [] 5 rfl rfl rfl (vf := []) (vc := []) rfl rfl Try.call40 (by decide) (by decide) rfl (fun w how hc => spare_ok f1 hf1 b29 bf rb cb rp cp f1.st bm nu2 fr m nb T hms _ w hc j (by omega)) ?_)
          rintro _ _ ⟨rfl, rfl⟩
          rw [show plain m = (scanP f1.b j 0).2 by rw [← scan_2 f1.b j nu 0, ← hsc]]
          refine gk_bool (fun hsp => ?_) (fun hsp => ?_)
          · skip
            refine gl_nil ?_
            refine gx_then ?_
            refine gc_cond_t rfl ?_
            refine gc_seq ?_
            refine gc_seq ?_
            refine gc_region ?_
            refine gl_op (op_rd rfl (rd_move rfl) ?_)
            refine gl_op (op_rd rfl (rd_move rfl) ?_)
            obtain ⟨e1, e2, e3, e4, e5⟩ := erase_okP hf1 (by omega) (j : Int)
            refine gl_op (op_callMT [_, _, _, _, _] T [2, 3, 4] [0, 1] 5 rfl rfl rfl (vf := []) (vc := []) rfl rfl Try.call27 (by decide) (by decide) rfl (fun w how hc => Erase_ok f1 hf1 bf rb cb rp cp _ w hc (j : Int)) ?_)
            rintro _ _ ⟨rfl, rfl⟩
            refine gl_op (op_rd rfl (rd_assign rfl) ?_)
            refine gl_nil ?_
            refine gx_then ?_
            refine gc_seq ?_
            refine gc_region ?_
            refine gl_op (op_rd rfl (rd_move rfl) ?_)
            refine gl_op (op_rd rfl (rd_neq rfl rfl) (gk_dec (fun h66 => ?_) (fun h66 => ?_)))
            · skip
              refine gl_nil ?_
              refine gx_then ?_
              refine gc_cond_t rfl ?_
              refine gc_seq ?_
              refine gc_region ?_
              refine gl_op (op_rd rfl (rd_move rfl) ?_)
              refine gl_op (op_rd rfl (rd_assign rfl) ?_)
              refine gl_op (op_rd rfl (rd_assign rfl) ?_)
              refine gl_nil ?_
              refine gx_then ?_
              refine gc_ret ?_
              refine gx_then_ret ?_
              refine gx_block_ret ?_
              refine gx_then_ret ?_
              refine gx_then_ret ?_
              refine gx_block_ret ?_
              refine gx_then_ret ?_
              refine gx_ret2 (.inl rfl) Try.results11 rfl rfl [0, 1, 2] (by decide) ?_
              subst hf1e
              exact .inr (.inl ⟨j, by simp only at *; omega, hne (by omega), hsp, h66, rfl, rfl⟩)
            · skip
              have he0 : (flErase f1 (j : Int)).2 = 0 := Decidable.byContradiction h66
              refine gl_nil ?_
              refine gx_then ?_
              refine gc_cond_f rfl ?_
              refine gc_skip ?_
              refine gx_then ?_
              refine gc_region ?_
              refine gl_op (op_rd rfl (rd_move rfl) ?_)
              refine gl_op (op_rd rfl (rd_move rfl) ?_)
              refine gl_op (op_rd rfl (rd_nilCheck rfl) ?_)
              refine gl_op (op_rd rfl (rd_fieldAddr rfl (fa_81_5 _)) ?_)
              first | refine gl_op (op_store 0 ty_3 rfl rfl rfl rfl rfl (by first | rfl | (simp only [List.set_cons_succ, List.set_cons_zero]; exact rfl)) (by first | rfl | (simp only [List.set_cons_succ, List.set_cons_zero]; exact rfl)) ?_) | refine gl_op (op_store 3 ty_3 rfl rfl rfl rfl rfl (by first | rfl | (simp only [List.set_cons_succ, List.set_cons_zero]; exact rfl)) (by first | rfl | (simp only [List.set_cons_succ, List.set_cons_zero]; exact rfl)) ?_) | refine gl_op (op_storeRow 1 ty_3 rfl rfl rfl rfl (by simp; omega) (by first | rfl | (simp only [List.set_cons_succ, List.set_cons_zero]; exact rfl)) ?_) | refine gl_op (op_storeRow 2 ty_3 rfl rfl rfl rfl (by simp; omega) (by first | rfl | (simp only [List.set_cons_succ, List.set_cons_zero]; exact rfl)) ?_)
              refine gl_nil ?_
              refine gx_block ?_
              refine gx_then ?_
              refine gc_region ?_
              refine gl_op (op_rd rfl (rd_move rfl) ?_)
              refine gl_op (op_rd rfl (by first | exact rd_addN (b := 1) rfl rfl (by omega) | exact rd_add rfl rfl (by omega) (by omega)) ?_)
              refine gl_op (op_rd rfl (rd_assign rfl) ?_)
              refine gl_nil ?_
              refine gx_then ?_
              exact gx_cut ((j + 1, some bm, nu2, (flErase f1 (j : Int)).1, (j : Int))) ⟨⟨by simp only; omega, hnu2, (fun N hN => by rw [show nu2 = (scanP f1.b j nu).1 by rw [← hsc]]; exact scan_num hN (hnu N hN)), e1, e3, by simp only; omega, .inr ⟨hfr0, j, by omega, rfl, hsp, by rw [← he0]⟩⟩, by simp only; omega⟩ ⟨rfl, rfl, rfl, trivial⟩ (sub_drop (A := [_, _, _, _]) (B := [_, _, _, _, _]) (T := T) [3, 0, 1, 2] 5 (by decide) (by decide) rfl rfl)
          · skip
            refine gl_nil ?_
            refine gx_then ?_
            refine gc_cond_f rfl ?_
            refine gc_skip ?_
            refine gx_block ?_
            refine gx_then ?_
            refine gc_region ?_
            refine gl_op (op_rd rfl (rd_move rfl) ?_)
            refine gl_op (op_rd rfl (by first | exact rd_addN (b := 1) rfl rfl (by omega) | exact rd_add rfl rfl (by omega) (by omega)) ?_)
            refine gl_op (op_rd rfl (rd_assign rfl) ?_)
            refine gl_nil ?_
            refine gx_then ?_
            exact gx_cut ((j + 1, some bm, nu2, f1, fr)) ⟨⟨by simp only; omega, hnu2, (fun N hN => by rw [show nu2 = (scanP f1.b j nu).1 by rw [← hsc]]; exact scan_num hN (hnu N hN)), hf1, rfl, (Nat.le_succ_of_le hm1), .inl ⟨rfl, rfl, fun h bk hbk => by simp only at hbk; rcases (show bk < j ∨ bk = j by omega) with h2 | h2; exact hns h bk h2; rw [h2]; exact hsp⟩⟩, by simp only; omega⟩ ⟨rfl, rfl, rfl, trivial⟩ (sub_drop (A := [_, _, _, _]) (B := [_, _, _, _, _]) (T := T) [0, 2, 3, 4] 5 (by decide) (by decide) rfl rfl)
        · skip
          refine gl_op (op_rd rfl (rd_pick_t rfl rfl) ?_)
          refine gl_nil ?_
          refine gx_then ?_
          refine gc_cond_f rfl ?_
          refine gc_exit ?_
          refine gx_then_exit ?_
          refine gx_then_exit ?_
          refine gx_block_exit ?_
          refine gx_then ?_
          refine gc_seq ?_
          refine gc_seq ?_
          refine gc_region ?_
          refine gl_op (op_rd rfl (rd_move rfl) ?_)
          refine gl_op (op_rd rfl (rd_nilCheck rfl) ?_)
          refine gl_op (op_rd rfl (rd_fieldAddr rfl (fa_81_5 _)) ?_)
          refine gl_op (op_rd rfl (rd_load Try.underlying3 rfl rfl (by first | exact ld_blk 0 rfl rfl | exact ld_blk 1 rfl rfl | exact ld_rowN 2 rfl (get_nats (by omega)) | exact ld_rowN 3 rfl (get_nats (by omega)) | exact ld_slN (by assumption) (get_nats (by omega)) | exact ld_rowN 2 rfl (get_ints (by omega)) | exact ld_rowN 3 rfl (get_ints (by omega)) | exact ld_slN (by assumption) (get_ints (by omega)) | exact ld_old (by assumption) (by simp) | exact ld_cells (by assumption) (by simp) rfl)) ?_)
          refine gl_op (op_rd rfl (rd_lss rfl rfl) (gk_dec (fun h76 => ?_) (fun h76 => ?_)))
          · skip
            refine gl_nil ?_
            refine gx_then ?_
            refine gc_cond_t rfl ?_
            refine gc_seq ?_
            refine gc_region ?_
            refine gl_op (op_rd rfl (rd_assign rfl) ?_)
            refine gl_op (op_rd rfl (rd_assign rfl) ?_)
            refine gl_nil ?_
            refine gx_then ?_
            refine gc_ret ?_
            refine gx_then_ret ?_
            refine gx_ret2 (.inl rfl) Try.results11 rfl rfl [1, 2, 3] (by decide) ?_
            obtain ⟨rfl, rfl, hns⟩ : f1 = f2 ∧ fr = fr2 ∧ (fr < 0 → ∀ bk, bk < j → spareB f1.b bk = false) := by
              rcases hcase with h | ⟨_, bk, _, h3, _⟩
              · exact ⟨h.1.symm, h.2.1.symm, h.2.2⟩
              · omega
            subst hf1e
            exact .inr (.inr ⟨hne h76, fun bk hbk => hns h76 bk (by omega), rfl, rfl⟩)
          · skip
            refine gl_nil ?_
            refine gx_then ?_
            refine gc_cond_f rfl ?_
            refine gc_skip ?_
            refine gx_then ?_
            refine gc_seq ?_
            refine gc_region ?_
            refine gl_op (op_rd rfl (rd_move rfl) ?_)
            refine gl_op (op_callM [0, 1, 2, 3] [] rfl (vf := []) (vc := []) rfl rfl Try.call39 (by decide) rfl (fun w how hc => scan_ok f2 hf2 b29 bf rb cb rp cp f1.st nu mv fr2 (-1) _ w hc hnul) ?_)
            rintro _ _ ⟨bm, m, nb, T, nu2, rfl, hms, hsc, hnu2, rfl⟩
            refine gk_mid [_, _, _, _, _] T [] ?_
            refine gl_nil ?_
            refine gx_then ?_
            refine gc_seq ?_
            refine gc_region ?_
            refine gl_op (op_rd rfl (rd_move rfl) ?_)
            refine gl_op (op_rd rfl (rd_assign rfl) ?_)
            refine gl_op (op_rd rfl (rd_assign rfl) ?_)
            refine gl_nil ?_
            refine gx_then ?_
            refine gc_ret ?_
            refine gx_ret2S (.inl rfl) Try.results11 rfl rfl (sub_tail (A := [_, _, _, _, _]) (B := [_, _, _, _, _]) (T := T) [0, 1, 2, 3, 4] 5 (by decide) (by decide) rfl rfl) ?_
            obtain ⟨bk, hbe, hop⟩ : ∃ bk : Nat, fr2 = (bk : Int) ∧ OpenedAt f1 f2 bk := by
              rcases hcase with ⟨h1, h2, h3⟩ | ⟨h0, bk, h1, h2, h3, h4⟩
              · rcases hfr2 with ⟨h4, _⟩ | ⟨bk, h4, h5, h6⟩
                · omega
                · exact ⟨bk, by omega, h5, .inl ⟨h1, h6⟩⟩
              · exact ⟨bk, h2, h1, .inr ⟨hne h0, h3, h4⟩⟩
            subst hbe
            subst hf1e
            exact .inl ⟨b29, bm, m, nb, T, nu2, nu, f2, bk, rfl, hop, hf2, hl2, hnu, hsc, hnu2, hms, rfl⟩
      · skip
        refine gl_op (op_rd rfl (rd_move rfl) ?_)
        refine gl_no rfl rfl rfl ?_
        refine gl_no rfl rfl rfl ?_
        refine gl_no rfl rfl rfl ?_
        refine gl_no rfl rfl rfl ?_
        refine gl_no rfl rfl rfl ?_
        refine gl_op (op_rd rfl (rd_pick_f rfl rfl) ?_)
        refine gl_nil ?_
        refine gx_then ?_
        refine gc_cond_f rfl ?_
        refine gc_exit ?_
        refine gx_then_exit ?_
        refine gx_then_exit ?_
        refine gx_block_exit ?_
        refine gx_then ?_
        refine gc_seq ?_
        refine gc_seq ?_
        refine gc_region ?_
        refine gl_op (op_rd rfl (rd_move rfl) ?_)
        refine gl_op (op_rd rfl (rd_nilCheck rfl) ?_)
        refine gl_op (op_rd rfl (rd_fieldAddr rfl (fa_81_5 _)) ?_)
        refine gl_op (op_rd rfl (rd_load Try.underlying3 rfl rfl (by first | exact ld_blk 0 rfl rfl | exact ld_blk 1 rfl rfl | exact ld_rowN 2 rfl (get_nats (by omega)) | exact ld_rowN 3 rfl (get_nats (by omega)) | exact ld_slN (by assumption) (get_nats (by omega)) | exact ld_rowN 2 rfl (get_ints (by omega)) | exact ld_rowN 3 rfl (get_ints (by omega)) | exact ld_slN (by assumption) (get_ints (by omega)) | exact ld_old (by assumption) (by simp) | exact ld_cells (by assumption) (by simp) rfl)) ?_)
        refine gl_op (op_rd rfl (rd_lss rfl rfl) (gk_dec (fun h76 => ?_) (fun h76 => ?_)))
        · skip
          refine gl_nil ?_
          refine gx_then ?_
          refine gc_cond_t rfl ?_
          refine gc_seq ?_
          refine gc_region ?_
          refine gl_op (op_rd rfl (rd_assign rfl) ?_)
          refine gl_op (op_rd rfl (rd_assign rfl) ?_)
          refine gl_nil ?_
          refine gx_then ?_
          refine gc_ret ?_
          refine gx_then_ret ?_
          refine gx_ret2 (.inl rfl) Try.results11 rfl rfl [1, 2, 3] (by decide) ?_
          obtain ⟨rfl, rfl, hns⟩ : f1 = f2 ∧ fr = fr2 ∧ (fr < 0 → ∀ bk, bk < j → spareB f1.b bk = false) := by
            rcases hcase with h | ⟨_, bk, _, h3, _⟩
            · exact ⟨h.1.symm, h.2.1.symm, h.2.2⟩
            · omega
          subst hf1e
          exact .inr (.inr ⟨hne h76, fun bk hbk => hns h76 bk (by omega), rfl, rfl⟩)
        · skip
          refine gl_nil ?_
          refine gx_then ?_
          refine gc_cond_f rfl ?_
          refine gc_skip ?_
          refine gx_then ?_
          refine gc_seq ?_
          refine gc_region ?_
          refine gl_op (op_rd rfl (rd_move rfl) ?_)
          refine gl_op (op_callM [0, 1, 2, 3] [] rfl (vf := []) (vc := []) rfl rfl Try.call39 (by decide) rfl (fun w how hc => scan_ok f2 hf2 b29 bf rb cb rp cp f1.st nu mv fr2 (-1) _ w hc hnul) ?_)
          rintro _ _ ⟨bm, m, nb, T, nu2, rfl, hms, hsc, hnu2, rfl⟩
          refine gk_mid [_, _, _, _, _] T [] ?_
          refine gl_nil ?_
          refine gx_then ?_
          refine gc_seq ?_
          refine gc_region ?_
          refine gl_op (op_rd rfl (rd_move rfl) ?_)
          refine gl_op (op_rd rfl (rd_assign rfl) ?_)
          refine gl_op (op_rd rfl (rd_assign rfl) ?_)
          refine gl_nil ?_
          refine gx_then ?_
          refine gc_ret ?_
          refine gx_ret2S (.inl rfl) Try.results11 rfl rfl (sub_tail (A := [_, _, _, _, _]) (B := [_, _, _, _, _]) (T := T) [0, 1, 2, 3, 4] 5 (by decide) (by decide) rfl rfl) ?_
          obtain ⟨bk, hbe, hop⟩ : ∃ bk : Nat, fr2 = (bk : Int) ∧ OpenedAt f1 f2 bk := by
            rcases hcase with ⟨h1, h2, h3⟩ | ⟨h0, bk, h1, h2, h3, h4⟩
            · rcases hfr2 with ⟨h4, _⟩ | ⟨bk, h4, h5, h6⟩
              · omega
              · exact ⟨bk, by omega, h5, .inl ⟨h1, h6⟩⟩
            · exact ⟨bk, h2, h1, .inr ⟨hne h0, h3, h4⟩⟩
          subst hbe
          subst hf1e
          exact .inl ⟨b29, bm, m, nb, T, nu2, nu, f2, bk, rfl, hop, hf2, hl2, hnu, hsc, hnu2, hms, rfl⟩

end Go.Proofs.Ythcbcdjkfefnlaa

set_option autoImplicit false
set_option linter.unusedVariables false
namespace Go.Proofs.Ythcbcdjkfefnlaa
open Go.Gv
open Go.RowKit Go.Shelf Go.Sort
def sortRen : Ren := ⟨fun x => match x with | 189 => 69 | 125 => 75 | 257 => 74 | 128 => 85 | 129 => 86 | 294 => 76 | 295 => 77 | 296 => 78 | 297 => 79 | 298 => 80 | 299 => 81 | 216 => 82 | 300 => 83 | 301 => 84 | 328 => 87 | 329 => 88 | 330 => 89 | 331 => 90 | 332 => 91 | 215 => 92 | 343 => 93 | n => n, fun x => match x with | 28 => 55 | 3 => 3 | 46 => 112 | 0 => 0 | 51 => 79 | 53 => 124 | 4 => 4 | 183 => 132 | 182 => 131 | 131 => 137 | 5 => 5 | 9 => 9 | 218 => 141 | 222 => 145 | 228 => 147 | 229 => 44 | n => n, fun x => x⟩
theorem sortLaid : Lays.n189 Try.prog sortRen := { mixed := by kernel_rfl, f125 := Eq.trans Try.func75 (congrArg some (by kernel_rfl)), f128 := Eq.trans Try.func85 (congrArg some (by kernel_rfl)), f129 := Eq.trans Try.func86 (congrArg some (by kernel_rfl)), f189 := Eq.trans Try.func69 (congrArg some (by kernel_rfl)), f215 := Eq.trans Try.func92 (congrArg some (by kernel_rfl)), f216 := Eq.trans Try.func82 (congrArg some (by kernel_rfl)), f257 := Eq.trans Try.func74 (congrArg some (by kernel_rfl)), f294 := Eq.trans Try.func76 (congrArg some (by kernel_rfl)), f295 := Eq.trans Try.func77 (congrArg some (by kernel_rfl)), f296 := Eq.trans Try.func78 (congrArg some (by kernel_rfl)), f297 := Eq.trans Try.func79 (congrArg some (by kernel_rfl)), f298 := Eq.trans Try.func80 (congrArg some (by kernel_rfl)), f299 := Eq.trans Try.func81 (congrArg some (by kernel_rfl)), f300 := Eq.trans Try.func83 (congrArg some (by kernel_rfl)), f301 := Eq.trans Try.func84 (congrArg some (by kernel_rfl)), f328 := Eq.trans Try.func87 (congrArg some (by kernel_rfl)), f329 := Eq.trans Try.func88 (congrArg some (by kernel_rfl)), f330 := Eq.trans Try.func89 (congrArg some (by kernel_rfl)), f331 := Eq.trans Try.func90 (congrArg some (by kernel_rfl)), f332 := Eq.trans Try.func91 (congrArg some (by kernel_rfl)), f343 := Eq.trans Try.func93 (congrArg some (by kernel_rfl)), t0 := Try.underlying0, a0 := Try.isAgg0, z0 := Try.sizeOf0, v0 := Try.zeroValue0, t3 := Try.underlying3, a3 := Try.isAgg3, z3 := Try.sizeOf3, v3 := Try.zeroValue3, t4 := Try.underlying4, a4 := Try.isAgg4, z4 := Try.sizeOf4, v4 := Try.zeroValue4, t5 := Try.underlying5, a5 := Try.isAgg5, z5 := Try.sizeOf5, v5 := Try.zeroValue5, t9 := Try.underlying9, a9 := Try.isAgg9, z9 := Try.sizeOf9, v9 := Try.zeroValue9, t28 := Try.underlying55, a28 := Try.isAgg55, z28 := Try.sizeOf55, v28 := Try.zeroValue55, t46 := Try.underlying112, a46 := Try.isAgg112, z46 := Try.sizeOf112, v46 := Try.zeroValue112, t51 := Try.underlying79, a51 := Try.isAgg79, z51 := Try.sizeOf79, v51 := Try.zeroValue79, t53 := Try.underlying124, a53 := Try.isAgg124, z53 := Try.sizeOf124, v53 := Try.zeroValue124, t131 := Try.underlying137, a131 := Try.isAgg137, z131 := Try.sizeOf137, v131 := Try.zeroValue137, t182 := Try.underlying131, a182 := Try.isAgg131, z182 := Try.sizeOf131, v182 := Try.zeroValue131, t183 := Try.underlying132, a183 := Try.isAgg132, z183 := Try.sizeOf132, v183 := Try.zeroValue132, t218 := Try.underlying141, a218 := Try.isAgg141, z218 := Try.sizeOf141, v218 := Try.zeroValue141, t222 := Try.underlying145, a222 := Try.isAgg145, z222 := Try.sizeOf145, v222 := Try.zeroValue145, t228 := Try.underlying147, a228 := Try.isAgg147, z228 := Try.sizeOf147, v228 := Try.zeroValue147, t229 := Try.underlying44, a229 := Try.isAgg44, z229 := Try.sizeOf44, v229 := Try.zeroValue44 }

end Go.Proofs.Ythcbcdjkfefnlaa

set_option autoImplicit false
set_option linter.unusedVariables false
namespace Go.Proofs.Ythcbcdjkfefnlaa
open Go.Gv
open Go.RowKit
open Iv
namespace Iv
def srt (xs : List Nat) : List Nat := xs.mergeSort fun x y => decide (x ≤ y)
theorem srt_len (xs : List Nat) : (srt xs).length = xs.length := (List.mergeSort_perm _ _).length_eq
theorem srt_perm (xs : List Nat) : (srt xs).Perm xs := List.mergeSort_perm _ _
theorem srt_sorted (xs : List Nat) : (srt xs).Pairwise (· ≤ ·) := by
  have h := List.pairwise_mergeSort (le := fun x y : Nat => decide (x ≤ y)) (fun a b c h1 h2 => decide_eq_true (Nat.le_trans (of_decide_eq_true h1) (of_decide_eq_true h2))) (fun a b => by rcases Nat.le_total a b with h | h <;> simp [h]) xs
  exact h.imp fun h => of_decide_eq_true h
theorem srt_of_perm {xs ys : List Nat} (h : xs.Perm ys) : srt xs = srt ys :=
  List.Perm.eq_of_pairwise (le := (· ≤ ·)) (fun a b _ _ h1 h2 => Nat.le_antisymm h1 h2) (srt_sorted xs) (srt_sorted ys) ((srt_perm xs).trans (h.trans (srt_perm ys).symm))
theorem sortNatI (xs : List Nat) : (xs.map fun n : Nat => (n : Int)).mergeSort (fun x y => decide (x ≤ y)) = (xs.mergeSort fun x y => decide (x ≤ y)).map fun n : Nat => (n : Int) := by
  refine (List.map_mergeSort fun a _ b _ => ?_).symm
  rw [decide_eq_decide]; omega
theorem sort_ok (xs : List Nat) (r : Option Nat) (cp : Nat) (S : List Nat) (w0 : World) (hown : Own w0 S w0 [.row 3 1 r xs.length cp (xs.map natV)]) (hlen : xs.length ≤ 1000000000) :
    Sp Try.prog 69 [.slice (rowA r) xs.length cp] w0 S (fun v l => l = [.row 3 1 r xs.length cp ((srt xs).map natV)]) := by
  have h := sort_spec sortLaid (xs.map fun n : Nat => (n : Int)) r cp S w0 (by rw [List.length_map, List.map_map]; exact hown) (by rw [List.length_map]; exact hlen)
  rw [List.length_map, sortNatI, List.map_map] at h
  exact h
def dkeys (ds : List (ME He)) : List Nat := ds.map fun y => y.v.en.key
def keysP (P : List En) : List Nat := srt (P.map En.key)
theorem dkeys_snoc (ds : List (ME He)) (y : ME He) : dkeys (ds ++ [y]) = dkeys ds ++ [y.v.en.key] := by simp [dkeys]
theorem dkeys_len (ds : List (ME He)) : (dkeys ds).length = ds.length := by simp [dkeys]
theorem keys_perm {m ds : List (ME He)} (h : m.Perm ds) : srt (dkeys ds) = keysP (plain m) := by
  unfold keysP plain
  rw [List.map_map]
  exact srt_of_perm (List.Perm.map (fun y : ME He => y.v.en.key) h.symm)
theorem keysP_len (P : List En) : (keysP P).length = P.length := by rw [keysP, srt_len, List.length_map]
theorem sub_len {α : Type} : ∀ {l1 l2 : List α}, l1.Nodup → (∀ x ∈ l1, x ∈ l2) → l1.length ≤ l2.length
  | [], _, _, _ => Nat.zero_le _
  | x :: l1, l2, hn, h => by
    obtain ⟨a, b, rfl⟩ := List.append_of_mem (h x List.mem_cons_self)
    rw [List.nodup_cons] at hn
    have h1 := sub_len (l1 := l1) (l2 := a ++ b) hn.2 fun y hy => by
      have := h y (List.mem_cons_of_mem _ hy)
      rcases List.mem_append.1 this with h' | h'
      · exact List.mem_append_left _ h'
      · rcases List.mem_cons.1 h' with rfl | h'
        · exact absurd hy hn.1
        · exact List.mem_append_right _ h'
    simp only [List.length_append, List.length_cons] at h1 ⊢
    omega
theorem met_snoc {m ds : List (ME He)} {nb : Nat} (hm : MOk m nb) (hn : (ds.map ME.born).Nodup) (hs : ∀ y ∈ ds, y ∈ m) {y : ME He} (hy : y ∈ m) (hyd : y ∉ ds) : ((ds ++ [y]).map ME.born).Nodup ∧ (∀ z ∈ ds ++ [y], z ∈ m) ∧ ds.length < m.length := by
  have h2 : ∀ z ∈ ds ++ [y], z ∈ m := fun z hz => by
    rcases List.mem_append.1 hz with h | h
    · exact hs z h
    · rw [List.mem_singleton.1 h]; exact hy
  have h1 : ((ds ++ [y]).map ME.born).Nodup := by
    rw [List.map_append, List.nodup_append]
    refine ⟨hn, by simp, fun a ha b hb e => ?_⟩
    simp at hb; subst hb; subst e
    obtain ⟨z, hz, e⟩ := List.mem_map.1 ha
    exact hyd (map_inj_nodup hm.borns (hs z hz) hy e ▸ hz)
  refine ⟨h1, h2, ?_⟩
  have := sub_len (nodup_of_map h1) h2
  simp at this
  omega
section
variable {P : Program} {n : Nat} {Q : Exit → Act → World → Prop} {K : Act → World → Prop} {e : Env} {w0 : World} {S : List Nat} {l : List HL} {d : Nat} {ty : TypeId} {pos : String} {aft : Array Edge} {gd : Option (Nat × Bool)}
theorem op_copyNil {t t2 E : TypeId} {z : Value} {bytes dLen dCap size : Nat} {x y : Operand} {ad : Addr} (hu : P.underlying t = some (.slice E)) (ht : TyF P E z size bytes) (hd : Nat.ble n d = false)
    (hx : e.ev x = some (.slice (some ad) dLen dCap)) (hy : e.ev y = some (.slice none 0 0)) (k : GK n K ((d, .int .i64 0) :: e) w0 S l) :
    GK n (fun a w => Oper.wp P ⟨some d, .call { callee := .builtin .copy, args := #[x, y], argTypes := #[t, t2] }, ty, pos, aft, gd⟩ a w K Q) e w0 S l := fun a w hs ho => by
  obtain ⟨ii, hi1, hi2, hi3, hi4⟩ := ht.ex
  have hr := run_copy_nil (P := P) w t t2 ty E ad dLen dCap hu (by rw [hi1]; rfl)
  have hr2 : (execOp a.eval ⟨some d, .call { callee := .builtin .copy, args := #[x, y], argTypes := #[t, t2] }, ty, pos, aft, gd⟩).run P w = .ok (.value (.int .i64 0)) w := by
    simp [execOp, resolve, invoke, builtin, hs.ev hx, hs.ev hy, hr, goInt]
  exact wp_value hr2 (k _ _ (hs.put (blt_lt hd) _) ho)
end
theorem pk3_nil (b : List Nat) : pk3 [] b = b := by unfold pk3; simp
end Iv

set_option maxRecDepth 100000 in
set_option maxHeartbeats 1000000 in
theorem pack_nil (key num : Nat) (hk : key < 65536) (hnum : num < 4294967296) (w0 : World) : Sp Try.prog 52 [.agg #[natV key, .int .u32 (num : Int), .slice none 0 0]] w0 [] (fun v L => ∃ rr cr : Nat, v = .slice (some ⟨rr, 0, none⟩) 24 24 ∧ L = [.row 5 1 (some rr) 24 cr ((packP key num []).map u8V)]) := by
  refine spec_enter Try.func52 rfl Try.ntmps52 rfl (Own.refl _) ?_
  simp only [argEnv]
  refine gc_seq ?_
  refine gc_region ?_
  refine gl_op (op_box rfl rfl rfl (fun b1 => ?_))
  refine gl_op (op_rd rfl (rd_assign rfl) ?_)
  refine gl_nil ?_
  refine gx_then ?_
  refine gc_seq ?_
  refine gc_region ?_
  refine gl_op (op_buildSlice (sz := 1) rfl rfl (fun _ => bs_36_1_0 _) rfl rfl (fun b5 => ?_))
  refine gl_op (op_call rfl (vf := []) (vc := []) rfl rfl Try.call36 (fun w2 ho => Repeat_ok 255 24 (rowA (some b5)) 1 w2 (ho.rowSl 0 rfl) (by omega)) ?_)
  rintro _ _ ⟨rr, cr, rfl, rfl⟩
  refine gl_op (op_rd rfl (rd_assign rfl) ?_)
  refine gl_nil ?_
  refine gx_then ?_
  refine gc_seq ?_
  refine gc_drawP [1, 2] false 19 rfl ?_
  refine ga_first 0 #[true, false, false, false, false, false, false, false, false, false, false, false, false, false, false, false, false, false, false, false] rfl rfl rfl rfl (by kernel_rfl) rfl ⟨[1, 2], by decide, rfl⟩ (qt_rd (rd_move rfl)) ?_
  refine ga_first 1 #[true, true, false, false, false, false, false, false, false, false, false, false, false, false, false, false, false, false, false, false] rfl rfl rfl rfl (by kernel_rfl) rfl ⟨[1, 2], by decide, rfl⟩ (qt_rd (rd_move rfl)) ?_
  refine ga_first 2 #[true, true, true, false, false, false, false, false, false, false, false, false, false, false, false, false, false, false, false, false] rfl rfl rfl rfl (by kernel_rfl) rfl ⟨[1, 2], by decide, rfl⟩ (qt_rd (rd_move rfl)) ?_
  refine ga_first 3 #[true, true, true, true, false, false, false, false, false, false, false, false, false, false, false, false, false, false, false, false] rfl rfl rfl rfl (by kernel_rfl) rfl ⟨[1, 2], by decide, rfl⟩ (qt_rd (rd_fieldAddr rfl (fa_92_0 _))) ?_
  refine ga_first 4 #[true, true, true, true, true, false, false, false, false, false, false, false, false, false, false, false, false, false, false, false] rfl rfl rfl rfl (by kernel_rfl) rfl ⟨[1, 2], by decide, rfl⟩ (qt_rd (rd_load Try.underlying3 rfl rfl (by first | exact ld_blk 1 rfl rfl | exact ld_rowN 0 rfl (get_nats (by omega)) | exact ld_slN (by assumption) (get_nats (by omega)) | exact ld_rowN 0 rfl (get_ints (by omega)) | exact ld_slN (by assumption) (get_ints (by omega)) | exact ld_old (by assumption) (by simp) | exact ld_cells (by assumption) (by simp) rfl))) ?_
  refine ga_first 5 #[true, true, true, true, true, true, false, false, false, false, false, false, false, false, false, false, false, false, false, false] rfl rfl rfl rfl (by kernel_rfl) rfl ⟨[1, 2], by decide, rfl⟩ (qt_rd (rd_shr (b := 8) rfl rfl (by omega))) ?_
  refine ga_first 6 #[true, true, true, true, true, true, true, false, false, false, false, false, false, false, false, false, false, false, false, false] rfl rfl rfl rfl (by kernel_rfl) rfl ⟨[1, 2], by decide, rfl⟩ (qt_rd (rd_conv Try.runUnderlying3 Try.runUnderlying5 rfl (wrap8_mod _))) ?_
  refine ga_first 7 #[true, true, true, true, true, true, true, true, false, false, false, false, false, false, false, false, false, false, false, false] rfl rfl rfl rfl (by kernel_rfl) rfl ⟨[1, 2], by decide, rfl⟩ (qt_rd (rd_fieldAddr rfl (fa_92_0 _))) ?_
  refine ga_first 8 #[true, true, true, true, true, true, true, true, true, false, false, false, false, false, false, false, false, false, false, false] rfl rfl rfl rfl (by kernel_rfl) rfl ⟨[1, 2], by decide, rfl⟩ (qt_rd (rd_load Try.underlying3 rfl rfl (by first | exact ld_blk 1 rfl rfl | exact ld_rowN 0 rfl (get_nats (by omega)) | exact ld_slN (by assumption) (get_nats (by omega)) | exact ld_rowN 0 rfl (get_ints (by omega)) | exact ld_slN (by assumption) (get_ints (by omega)) | exact ld_old (by assumption) (by simp) | exact ld_cells (by assumption) (by simp) rfl))) ?_
  refine ga_first 9 #[true, true, true, true, true, true, true, true, true, true, false, false, false, false, false, false, false, false, false, false] rfl rfl rfl rfl (by kernel_rfl) rfl ⟨[1, 2], by decide, rfl⟩ (qt_rd (rd_conv Try.runUnderlying3 Try.runUnderlying5 rfl (wrap8_mod _))) ?_
  refine ga_first 10 #[true, true, true, true, true, true, true, true, true, true, true, false, false, false, false, false, false, false, false, false] rfl rfl rfl rfl (by kernel_rfl) rfl ⟨[1, 2], by decide, rfl⟩ (qt_rd (rd_fieldAddr rfl (fa_92_2 _))) ?_
  refine ga_first 11 #[true, true, true, true, true, true, true, true, true, true, true, true, false, false, false, false, false, false, false, false] rfl rfl rfl rfl (by kernel_rfl) rfl ⟨[1, 2], by decide, rfl⟩ (qt_rd (rd_load Try.underlying36 rfl rfl (by first | exact ld_blk 1 rfl rfl | exact ld_old (by assumption) (by simp) | exact ld_cells (by assumption) (by simp) rfl))) ?_
  refine ga_first 12 #[true, true, true, true, true, true, true, true, true, true, true, true, true, false, false, false, false, false, false, false] rfl rfl rfl rfl (by kernel_rfl) rfl ⟨[1, 2], by decide, rfl⟩ (qt_rd (rd_lenSlice Try.underlying36 rfl)) ?_
  refine ga_first 13 #[true, true, true, true, true, true, true, true, true, true, true, true, true, true, false, false, false, false, false, false] rfl rfl rfl rfl (by kernel_rfl) rfl ⟨[1, 2], by decide, rfl⟩ (qt_rd (rd_conv Try.runUnderlying3 Try.runUnderlying5 rfl (wrap8_mod _))) ?_
  refine ga_first 14 #[true, true, true, true, true, true, true, true, true, true, true, true, true, true, true, false, false, false, false, false] rfl rfl rfl rfl (by kernel_rfl) rfl ⟨[1, 2], by decide, rfl⟩ (qt_rd (rd_indexRS Try.underlying36 ty_5 rfl rfl (by omega) (by omega))) ?_
  refine ga_only 15 #[true, true, true, true, true, true, true, true, true, true, true, true, true, true, true, true, false, false, false, false] rfl rfl (by kernel_rfl) rfl (.inr ⟨[1, 2], by decide, rfl⟩) (op_storeRowE 0 ty_5 rfl rfl rfl rfl (by simp) (setU8 (List.replicate 24 255) 0 _) (by first | rfl | (simp only [List.set_cons_succ, List.set_cons_zero]; exact rfl)) ?_)
  refine ga_first 16 #[true, true, true, true, true, true, true, true, true, true, true, true, true, true, true, true, true, false, false, false] rfl rfl rfl rfl (by kernel_rfl) rfl ⟨[1, 2], by decide, rfl⟩ (qt_rd (rd_indexRS Try.underlying36 ty_5 rfl rfl (by omega) (by omega))) ?_
  refine ga_only 17 #[true, true, true, true, true, true, true, true, true, true, true, true, true, true, true, true, true, true, false, false] rfl rfl (by kernel_rfl) rfl (.inr ⟨[1, 2], by decide, rfl⟩) (op_storeRowE 0 ty_5 rfl rfl rfl rfl (by simp) (setU8 _ 1 _) (by first | rfl | (simp only [List.set_cons_succ, List.set_cons_zero]; exact rfl)) ?_)
  refine ga_first 18 #[true, true, true, true, true, true, true, true, true, true, true, true, true, true, true, true, true, true, true, false] rfl rfl rfl rfl (by kernel_rfl) rfl ⟨[1, 2], by decide, rfl⟩ (qt_rd (rd_indexRS Try.underlying36 ty_5 rfl rfl (by omega) (by omega))) ?_
  refine ga_only 19 #[true, true, true, true, true, true, true, true, true, true, true, true, true, true, true, true, true, true, true, true] rfl rfl (by kernel_rfl) rfl (.inr ⟨[1, 2], by decide, rfl⟩) (op_storeRowE 0 ty_5 rfl rfl rfl rfl (by simp) (setU8 _ 2 _) (by first | rfl | (simp only [List.set_cons_succ, List.set_cons_zero]; exact rfl)) ?_)
  refine ga_end (by kernel_rfl) (.inl (by kernel_rfl)) ?_
  refine gx_then ?_
  refine gc_seq ?_
  refine gc_seq ?_
  refine gc_region ?_
  refine gl_op (op_rd rfl (rd_move rfl) ?_)
  refine gl_nil ?_
  refine gx_then ?_
  refine gc_block ?_
  refine gc_loopF (ι := Nat) [(1, _), (3, _)] [_, _] (fun j => j ≤ 4) (fun j Fr0 => ((24, natV j) :: Fr0)) (fun j Fr0 => (.row 5 1 (some rr) 24 cr ((pk2 num (pk1 key 0) j).map u8V) :: Fr0)) (fun j => 4 - j) 0 (Nat.zero_le _) ⟨rfl, rfl, rfl, trivial⟩ ⟨[0, 1, 2], by decide, rfl⟩ ?_
  rintro j hj
  have hj24 : (pk2 num (pk1 key 0) j).length = 24 := by rw [pk2_len, pk1_len]
  refine gc_seq ?_
  refine gc_region ?_
  refine gl_op (op_rd rfl (rd_lss rfl rfl) (gk_dec (fun h25 => ?_) (fun h25 => ?_)))
  · skip
    refine gl_nil ?_
    refine gx_then ?_
    refine gc_seq ?_
    refine gc_cond_t rfl ?_
    refine gc_skip ?_
    refine gx_then ?_
    refine gc_seq ?_
    refine gc_block ?_
    refine gc_seq ?_
    refine gc_region ?_
    refine gl_op (op_rd rfl (rd_move rfl) ?_)
    refine gl_op (op_rd rfl (rd_assign rfl) ?_)
    refine gl_nil ?_
    refine gx_then ?_
    refine gc_region ?_
    refine gl_op (op_rd rfl (rd_move rfl) ?_)
    refine gl_op (op_rd rfl (rd_move rfl) ?_)
    refine gl_op (op_rd rfl (by first | exact rd_addN (a := 3) rfl rfl (by omega) | exact rd_add rfl rfl (by omega) (by omega)) ?_)
    refine gl_op (op_rd rfl (rd_fieldAddr rfl (fa_92_1 _)) ?_)
    refine gl_op (op_rd rfl (rd_load Try.underlying79 rfl rfl (by first | exact ld_blk 2 rfl rfl | exact ld_old (by assumption) (by simp) | exact ld_cells (by assumption) (by simp) rfl)) ?_)
    refine gl_op (op_rd rfl (rd_move rfl) ?_)
    refine gl_op (op_rd rfl (by first | exact rd_mulN (a := 8) rfl rfl (by omega) | exact rd_mul rfl rfl (by omega) (by omega)) ?_)
    refine gl_op (op_rd rfl (by first | exact rd_subN (a := 24) rfl rfl (by omega) (by omega) | exact rd_sub rfl rfl (by omega) (by omega)) ?_)
    refine gl_op (op_rd rfl (rd_shr32 (b := 24 - 8 * j) rfl rfl hnum (by omega)) ?_)
    refine gl_op (op_rd rfl (rd_conv Try.runUnderlying79 Try.runUnderlying5 rfl (wrap8_mod _)) ?_)
    refine gl_op (op_rd rfl (rd_indexRS Try.underlying36 ty_5 rfl rfl (by omega) (by omega)) ?_)
    refine gl_op (op_storeRowE 0 ty_5 rfl rfl rfl rfl (by simp; omega) (setU8 _ (3 + j) _) (by first | rfl | (simp only [List.set_cons_succ, List.set_cons_zero]; exact rfl)) ?_)
    refine gl_nil ?_
    refine gx_block ?_
    refine gx_then ?_
    rw [← pk2_succ]
    refine gc_region ?_
    refine gl_op (op_rd rfl (by first | exact rd_addN (b := 1) rfl rfl (by omega) | exact rd_add rfl rfl (by omega) (by omega)) ?_)
    refine gl_op (op_rd rfl (rd_move rfl) ?_)
    refine gl_nil ?_
    refine gx_then ?_
    exact gx_cut (j + 1) ⟨by omega, by omega⟩ ⟨rfl, rfl, rfl, trivial⟩ ⟨[0, 1, 2], by decide, rfl⟩
  · skip
    refine gl_nil ?_
    refine gx_then ?_
    refine gc_seq ?_
    refine gc_cond_f rfl ?_
    refine gc_exit ?_
    refine gx_then_exit ?_
    refine gx_then_exit ?_
    refine gx_block_exit ?_
    refine gx_then ?_
    refine gc_seq ?_
    obtain rfl : j = 4 := by omega
    have hp3 := hj24
    have hp3b := pk2_lt num (pk1_lt key 0 hk) 4
    have hzz := zeros_le ((pk2 num (pk1 key 0) 4).take 23)
    rw [List.length_take, hp3] at hzz
    refine gc_drawP [1, 2] true 4 rfl ?_
    refine ga_first 0 #[true, false, false, false, false] rfl rfl rfl rfl (by kernel_rfl) rfl ⟨[1, 2], by decide, rfl⟩ (qt_rd (rd_move rfl)) ?_
    refine ga_first 1 #[true, true, false, false, false] rfl rfl rfl rfl (by kernel_rfl) rfl ⟨[1, 2], by decide, rfl⟩ (qt_rd (rd_sliceLo Try.underlying36 ty_5 rfl rfl (by omega) (by omega))) ?_
    refine ga_first 2 #[true, true, true, false, false] rfl rfl rfl rfl (by kernel_rfl) rfl ⟨[1, 2], by decide, rfl⟩ (qt_rd (rd_fieldAddr rfl (fa_92_2 _))) ?_
    refine ga_first 3 #[true, true, true, true, false] rfl rfl rfl rfl (by kernel_rfl) rfl ⟨[1, 2], by decide, rfl⟩ (qt_rd (rd_load Try.underlying36 rfl rfl (by first | exact ld_blk 1 rfl rfl | exact ld_old (by assumption) (by simp) | exact ld_cells (by assumption) (by simp) rfl))) ?_
    rw [show subA (some ⟨rr, 0, none⟩) 24 (Int.toNat 7) 1 = some ⟨rr, 7, none⟩ from subA_row (by decide)]
    refine ga_only 4 #[true, true, true, true, true] rfl rfl (by kernel_rfl) rfl (.inr ⟨[1, 2], by decide, rfl⟩) (op_copyNil Try.underlying36 ty_5 rfl rfl rfl ?_)
    refine ga_end (by kernel_rfl) (.inr ⟨[1, 2], by decide, rfl⟩) ?_
    refine gx_then ?_
    refine gc_seq ?_
    refine gc_region ?_
    refine gl_op (op_rd rfl (rd_move rfl) ?_)
    refine gl_op (op_rd rfl (rd_move rfl) ?_)
    refine gl_op (op_rd rfl (rd_sliceHi Try.underlying36 ty_5 rfl rfl (by omega) (by omega)) ?_)
    refine gl_op (op_call rfl (vf := []) (vc := []) rfl rfl Try.call68 (fun w1 ho => zeros23 (pk2 num (pk1 key 0) 4) hp3b hp3 (some ⟨rr, 0, none⟩) 24 w1 (ho.rowSl 0 rfl)) ?_)
    rintro _ _ ⟨rfl, rfl⟩
    refine gl_op (op_rd rfl (rd_conv Try.runUnderlying3 Try.runUnderlying5 rfl (wrap_u8_nat (by omega))) ?_)
    refine gl_op (op_rd rfl (rd_indexRS Try.underlying36 ty_5 rfl rfl (by omega) (by omega)) ?_)
    refine gl_op (op_storeRowE 0 ty_5 rfl rfl rfl rfl (by rw [List.length_map, hp3]; decide) (setU8 _ 23 _) (by first | rfl | (simp only [List.set_cons_succ, List.set_cons_zero]; exact rfl)) ?_)
    refine gl_nil ?_
    refine gx_then ?_
    refine gc_seq ?_
    refine gc_region ?_
    refine gl_op (op_rd rfl (rd_move rfl) ?_)
    refine gl_op (op_rd rfl (rd_assign rfl) ?_)
    refine gl_nil ?_
    refine gx_then ?_
    refine gc_ret ?_
    refine gx_ret1 (.inl rfl) Try.results52 rfl [0] (by decide) ?_
    refine ⟨rr, cr, rfl, ?_⟩
    unfold packP
    rw [pk3_nil]
    rfl

theorem pack_all (x : He) (hx : EnOk x.en) (num : Nat) (hnum : num < 4294967296) (w0 : World) (hsl : OldSl w0 [] (rowA x.r) x.en.val.length 1 (x.en.val.map u8V)) (hnil : x.r = none → x.c = 0) : Sp Try.prog 52 [.agg #[natV x.en.key, .int .u32 (num : Int), .slice (rowA x.r) x.en.val.length x.c]] w0 [] (fun v L => ∃ rr cr : Nat, v = .slice (some ⟨rr, 0, none⟩) 24 24 ∧ L = [.row 5 1 (some rr) 24 cr ((packP x.en.key num x.en.val).map u8V)]) := by
  obtain ⟨⟨key, n0, vs, bk, sl⟩, r, c⟩ := x
  have hk := hx.key
  simp only at hk hsl hnil ⊢
  cases r with
  | some g => exact pack_ok key num (by omega) hnum vs hx.val hx.len ⟨g, 0, none⟩ c w0 hsl
  | none =>
    have hl : vs.length = 0 := by
      rcases Nat.eq_zero_or_pos vs.length with h | h
      · exact h
      · have := hsl.isSome h; cases this
    obtain rfl := List.eq_nil_of_length_eq_zero hl
    obtain rfl := hnil rfl
    exact pack_nil key num (by omega) hnum w0
theorem row_nil {w0 w : World} {S : List Nat} {l : List HL} (ho : Own w0 S w l) {x : He} (h : x.row ∈ l) : x.r = none → x.c = 0 := fun e => by
  have hh := ho.holds _ h
  unfold He.row at hh
  rw [e] at hh
  exact hh.2.2

set_option maxRecDepth 100000 in
set_option maxHeartbeats 4000000 in
theorem keys_ok (f : Fl) (hf : f.Ok) (bs bf : Nat) (rb : Option Nat) (cb : Nat) (rp : Option Nat) (cp : Nat) (id bm num : Nat) (free : Int) (m : List (ME He)) (nb : Nat) (T : List HL) (hms : MSt m nb T) (S : List Nat) (w0 : World) (hown : Own w0 S w0 (.blk bs [.bool true, .pointer (some ⟨bf, 0, none⟩), natV id, .map (some bm), .int .u32 ((num : Nat) : Int), .int .i64 free] 81 :: .obj bm (mapO HV m nb) :: FlH bf rb cb rp cp f)) (hml : m.length ≤ 1000000) : Sp Try.prog 53 [.pointer (some ⟨bs, 0, none⟩)] w0 S (fun v L => ∃ (r : Option Nat) (c : Nat), v = .slice (rowA r) (keysP (plain m)).length c ∧ L = (.blk bs [.bool true, .pointer (some ⟨bf, 0, none⟩), natV id, .map (some bm), .int .u32 ((num : Nat) : Int), .int .i64 free] 81 :: .obj bm (mapO HV m nb) :: FlH bf rb cb rp cp f) ++ [.row 3 1 r (keysP (plain m)).length c ((keysP (plain m)).map natV)]) := by
  refine spec_enter Try.func53 rfl Try.ntmps53 rfl hown ?_
  simp only [argEnv]
  refine gc_seq ?_
  refine gc_region ?_
  refine gl_op (op_rd rfl (rd_assign rfl) ?_)
  refine gl_nil ?_
  refine gx_then ?_
  refine gc_seq ?_
  refine gc_region ?_
  refine gl_op (op_rd rfl (rd_assign rfl) ?_)
  refine gl_nil ?_
  refine gx_then ?_
  refine gc_seq ?_
  refine gc_seq ?_
  refine gc_region ?_
  refine gl_op (op_rd rfl (rd_move rfl) ?_)
  refine gl_op (op_rd rfl (rd_nilCheck rfl) ?_)
  refine gl_op (op_rd rfl (rd_fieldAddr rfl (fa_81_3 _)) ?_)
  refine gl_op (op_rd rfl (rd_load Try.underlying78 rfl rfl (by first | exact ld_blk 0 rfl rfl | exact ld_blk 2 rfl rfl | exact ld_old (by assumption) (by simp) | exact ld_cells (by assumption) (by simp) rfl)) ?_)
  refine gl_op (op_range 1 HV rfl Try.underlying78 rfl rfl (fun r9 => ?_))
  refine gl_nil ?_
  refine gx_then ?_
  refine gc_block ?_
  refine gk_nil 3 1 ?_
  refine gc_loopF (ι := List (ME He) × Option Nat × Nat) [(9, _)] [_, _, _, _, _] (fun j => (j.1.map ME.born).Nodup ∧ ∀ y ∈ j.1, y ∈ m) (fun j Fr0 => ((3, .slice (rowA j.2.1) (dkeys j.1).length j.2.2) :: Fr0)) (fun j Fr0 => (.obj r9 (iterO bm nb j.1) :: .row 3 1 j.2.1 (dkeys j.1).length j.2.2 ((dkeys j.1).map natV) :: Fr0)) (fun j => m.length - j.1.length) ([], none, 0) (⟨List.nodup_nil, fun _ h => by cases h⟩) ⟨rfl, rfl, trivial⟩ ⟨[1, 0, 2, 3, 4, 5, 6], by decide, rfl⟩ ?_
  rintro ⟨ds, rk, ck⟩ ⟨hnd, hsub⟩
  simp only at hnd hsub ⊢
  have hdl : ds.length ≤ m.length := sub_len (nodup_of_map hnd) hsub
  have hdk := dkeys_len ds
  refine gc_seq ?_
  refine gc_region ?_
  refine gl_op (op_next 3 0 HV rfl hms.ok hnd hsub rfl rfl rfl (fun hperm => ?_) (fun y hy hyd => ?_))
  · skip
    refine gl_op (op_rd rfl (rd_extract rfl rfl) ?_)
    refine gl_nil ?_
    refine gx_then ?_
    refine gc_seq ?_
    refine gc_cond_f rfl ?_
    refine gc_exit ?_
    refine gx_then_exit ?_
    refine gx_then_exit ?_
    refine gx_block_exit ?_
    refine gx_then ?_
    refine gc_seq ?_
    refine gc_region ?_
    refine gl_op (op_rd rfl (rd_move rfl) ?_)
    refine gl_op (op_callM [1] [0, 2, 3, 4, 5, 6] rfl (vf := []) (vc := []) rfl rfl Try.call69 (by decide) rfl (fun w how hc => sort_ok (dkeys ds) rk ck _ w hc (by omega)) ?_)
    rintro _ _ rfl
    rw [keys_perm hperm, show (dkeys ds).length = (keysP (plain m)).length by rw [keysP_len, List.length_map, dkeys_len, hperm.length_eq]]
    refine gl_nil ?_
    refine gx_then ?_
    refine gc_seq ?_
    refine gc_region ?_
    refine gl_op (op_rd rfl (rd_move rfl) ?_)
    refine gl_op (op_rd rfl (rd_assign rfl) ?_)
    refine gl_nil ?_
    refine gx_then ?_
    refine gc_ret ?_
    refine gx_ret1 (.inl rfl) Try.results53 rfl [2, 3, 4, 5, 6, 0] (by decide) ?_
    exact ⟨rk, ck, rfl, rfl⟩
  · skip
    refine gl_op (op_rd rfl (rd_extract rfl rfl) ?_)
    refine gl_nil ?_
    refine gx_then ?_
    refine gc_seq ?_
    refine gc_cond_t rfl ?_
    refine gc_skip ?_
    refine gx_then ?_
    refine gc_block ?_
    refine gc_seq ?_
    refine gc_region ?_
    refine gl_op (op_rd rfl (rd_entry 3 0 HV hms.ok hy rfl rfl rfl) ?_)
    refine gl_op (op_rd rfl (rd_extract rfl rfl) ?_)
    rw [hms.key y hy]
    refine gl_op (op_rd rfl (rd_assign rfl) ?_)
    refine gl_nil ?_
    refine gx_then ?_
    refine gc_region ?_
    refine gl_op (op_rd rfl (rd_move rfl) ?_)
    refine gl_op (op_rd rfl (rd_move rfl) ?_)
    refine gl_op (op_buildSlice (sz := 1) rfl rfl (fun _ => bs_55_1_0 _) rfl rfl (fun b16 => ?_))
    refine gl_op (op_appendRow 2 0 Try.underlying55 ty_3 rfl (by decide) rfl rfl rfl rfl rfl (by simp [Value.oneCell']) (by omega) (by omega) (fun _ => (by first | rfl | (simp only [List.set_cons_succ, List.set_cons_zero]; exact rfl))) (fun r17 c17 => ?_))
    refine gl_op (op_rd rfl (rd_assign rfl) ?_)
    refine gl_nil ?_
    refine gx_block ?_
    refine gx_then ?_
    obtain ⟨hn1, hn2, hn3⟩ := met_snoc hms.ok hnd hsub hy hyd
    rw [snocN, snoc_len (dkeys ds) y.v.en.key, ← dkeys_snoc]
    exact gx_cut ((ds ++ [y], r17, c17)) ⟨⟨hn1, hn2⟩, by simp; omega⟩ ⟨rfl, rfl, trivial⟩ ⟨[1, 2, 3, 4, 5, 6, 7], by decide, rfl⟩

set_option maxRecDepth 100000 in
set_option maxHeartbeats 1000000 in
theorem stopped_ok (cs : List Value) (bs bf bm id num : Nat) (free e : Int) (S : List Nat) (w0 : World) (hown : Own w0 S w0 [.blk bs [.bool true, .pointer (some ⟨bf, 0, none⟩), natV id, .map (some bm), .int .u32 ((num : Nat) : Int), .int .i64 free] 81]) : Sp Try.prog 50 [.pointer (some ⟨bs, 0, none⟩), .int .i64 e] w0 S (fun v L => v = .int .i64 e ∧ L = [.blk bs [.bool true, .pointer (some ⟨bf, 0, none⟩), natV (if e = 9 then 0 else id), .map (some bm), .int .u32 ((num : Nat) : Int), .int .i64 free] 81]) := by
  refine spec_enter Try.func50 rfl Try.ntmps50 rfl hown ?_
  simp only [argEnv]
  refine gc_seq ?_
  refine gc_region ?_
  refine gl_op (op_rd rfl (rd_assign rfl) ?_)
  refine gl_nil ?_
  refine gx_then ?_
  refine gc_seq ?_
  refine gc_seq ?_
  refine gc_region ?_
  refine gl_op (op_rd rfl (rd_move rfl) ?_)
  refine gl_op (op_rd rfl (rd_eql rfl rfl) (gk_dec (fun h6 => ?_) (fun h6 => ?_)))
  · skip
    refine gl_nil ?_
    refine gx_then ?_
    refine gc_cond_t rfl ?_
    refine gc_region ?_
    refine gl_op (op_rd rfl (rd_move rfl) ?_)
    refine gl_op (op_rd rfl (rd_nilCheck rfl) ?_)
    refine gl_op (op_rd rfl (rd_fieldAddr rfl (fa_81_2 _)) ?_)
    refine gl_op (op_store 0 ty_3 rfl rfl rfl rfl rfl (by first | rfl | (simp only [List.set_cons_succ, List.set_cons_zero]; exact rfl)) (by first | rfl | (simp only [List.set_cons_succ, List.set_cons_zero]; exact rfl)) ?_)
    refine gl_nil ?_
    refine gx_then ?_
    refine gc_seq ?_
    refine gc_region ?_
    refine gl_op (op_rd rfl (rd_move rfl) ?_)
    refine gl_op (op_rd rfl (rd_assign rfl) ?_)
    refine gl_nil ?_
    refine gx_then ?_
    refine gc_ret ?_
    refine gx_ret1 (.inl rfl) Try.results50 rfl [0] (by decide) ?_
    rw [if_pos h6]
    exact ⟨rfl, rfl⟩
  · skip
    refine gl_nil ?_
    refine gx_then ?_
    refine gc_cond_f rfl ?_
    refine gc_skip ?_
    refine gx_then ?_
    refine gc_seq ?_
    refine gc_region ?_
    refine gl_op (op_rd rfl (rd_move rfl) ?_)
    refine gl_op (op_rd rfl (rd_assign rfl) ?_)
    refine gl_nil ?_
    refine gx_then ?_
    refine gc_ret ?_
    refine gx_ret1 (.inl rfl) Try.results50 rfl [0] (by decide) ?_
    rw [if_neg h6]
    exact ⟨rfl, rfl⟩

end Go.Proofs.Ythcbcdjkfefnlaa
