import Derived.Test.YteocjpnckciboaaOp
import Derived.Test.YteocjpnckciboaaGv
import Derived.Test.YteocjpnckciboaaWb
/- The walks of played and goes, and of two laws; what they say in plain Lean. -/
set_option linter.unusedSimpArgs false
set_option linter.unusedVariables false
set_option linter.unnecessarySimpa false
set_option autoImplicit false
set_option linter.unusedVariables false
namespace Go.Proofs.Yteocjpnckciboaa
open Go.Gv
open Go.RowKit
namespace Ry
/-! played: gates switch in the order of the picks -/
def pickK (picks : List Nat) (i n : Nat) : Nat := if 0 < picks.length then picks.getD (i % picks.length) 0 % n else 0
def playGo (c : Circ) (inn : Nat) (picks : List Nat) : Nat → Nat → Nat → List Nat → Nat × List Nat × Bool
  | 0, _, st, ts => (st, ts, false)
  | f + 1, i, st, ts => if nextL c st inn = [] then (st, ts, true) else
      playGo c inn picks f (i + 1) (flip st ((nextL c st inn).getD (pickK picks i (nextL c st inn).length) 0)) (ts.set ((nextL c st inn).getD (pickK picks i (nextL c st inn).length) 0) (ts.getD ((nextL c st inn).getD (pickK picks i (nextL c st inn).length) 0) 0 + 1))
theorem playGo_end {c : Circ} {inn : Nat} {picks : List Nat} {f i st : Nat} {ts : List Nat} (h : nextL c st inn = []) : playGo c inn picks (f + 1) i st ts = (st, ts, true) := by simp [playGo, h]
theorem playGo_step {c : Circ} {inn : Nat} {picks : List Nat} {f i st k : Nat} {ts : List Nat} (h : nextL c st inn ≠ []) (hk : (nextL c st inn).getD (pickK picks i (nextL c st inn).length) 0 = k) : playGo c inn picks (f + 1) i st ts = playGo c inn picks f (i + 1) (flip st k) (ts.set k (ts.getD k 0 + 1)) := by
  subst hk; simp only [playGo]; rw [if_neg h]
theorem ready_nat {c : Circ} {st inn : Nat} (h : c.check = 0) (h1 : st < 2 ^ c.gates.length) (h2 : inn < 2 ^ c.inputs.toNat) : c.ready st inn = 0 := by
  rw [Circ.ready_0 h ?_]
  simp only [Int.toNat_natCast]
  omega
theorem get_u8x {ps : List Nat} {k : Nat} (h : k < ps.length) : (ps.map fun n : Nat => Value.int .u8 (n : Int))[k]? = some (.int .u8 ((ps.getD k 0 : Nat) : Int)) := by simp [h]
theorem pickK_pos {picks : List Nat} {i n : Nat} (h : 0 < picks.length) : pickK picks i n = picks.getD (i % picks.length) 0 % n := by unfold pickK; rw [if_pos h]
theorem pickK_zero {picks : List Nat} {i n : Nat} (h : ¬ 0 < picks.length) : pickK picks i n = 0 := by unfold pickK; rw [if_neg h]
theorem map_set_succ (ts : List Nat) (k x : Nat) : (ts.map natV).set k (natV (x + 1)) = (ts.set k (x + 1)).map natV := by rw [List.map_set]
def goesGo (c : Circ) (inn : Nat) : List Nat → Nat → Option Nat
  | [], st => some st
  | k :: l, st => if k ∈ nextL c st inn then goesGo c inn l (flip st k) else none
theorem goes_t {c : Circ} {inn st j : Nat} {l : List Nat} (hj : j < l.length) (h : l.getD j 0 ∈ nextL c st inn) : goesGo c inn (l.drop j) st = goesGo c inn (l.drop (j + 1)) (flip st (l.getD j 0)) := by
  rw [List.drop_eq_getElem_cons hj, goesGo]
  have : l.getD j 0 = l[j] := by simp [hj]
  rw [this] at h ⊢
  rw [if_pos h]
theorem goes_f {c : Circ} {inn st j : Nat} {l : List Nat} (hj : j < l.length) (h : ¬ l.getD j 0 ∈ nextL c st inn) : goesGo c inn (l.drop j) st = none := by
  rw [List.drop_eq_getElem_cons hj, goesGo]
  have : l.getD j 0 = l[j] := by simp [hj]
  rw [this] at h
  rw [if_neg h]
theorem rNextN_ok (c : Circ) (st inn : Nat) (w0 : World) (hc : c.In w0 []) (hst : st < 4096) (hin : inn < 256) (hr : c.ready st inn = 0) : Sp Try.prog 20 [c.val, natV st, natV inn] w0 [] (fun v l => ∃ ks r cp, nextL c st inn = ks ∧ v = .tuple #[.slice (rowA r) ks.length cp, .int .i64 0] ∧ l = [.row 3 1 r ks.length cp (ks.map natV)]) :=
  Sp.mono (rNext_ok c st inn w0 hc (by omega) (by omega)) fun v l h => by
    rcases h with ⟨_, r, cp, h1, h2⟩ | ⟨h1, _⟩
    · simp only [Int.toNat_natCast] at h1 h2
      exact ⟨_, r, cp, rfl, h1, h2⟩
    · exact absurd hr h1
end Ry
end Go.Proofs.Yteocjpnckciboaa

set_option autoImplicit false
set_option linter.unusedVariables false
namespace Go.Proofs.Yteocjpnckciboaa
open Go.Gv
open Go.RowKit
namespace Ry
section
variable {c : Circ} {inn : Nat} {ns : List Nd}
theorem pos_lt (h : Cl c inn ns) (he : endsP c inn ns = true) {s : Nat} (hs : hasS ns s = true) : posS c inn ns s < ns.length := by
  obtain ⟨y, h2, h3⟩ := pl_get hs
  have hpl := (List.getElem?_eq_some_iff.1 h2).1
  have h0 : 0 < ns.length := by omega
  obtain ⟨to, K⟩ := done_Kahn (c := c) (inn := inn) h0
  have hlen := ends_len he
  have hin : pl ns s ∈ doneP c inn ns := all_in K.nd (fun p hp => ((K.k p).1 hp).1) hlen hpl
  have hq : (doneP c inn ns).idxOf (pl ns s) < (doneP c inn ns).length := List.idxOf_lt_length_of_mem hin
  unfold posS; omega
theorem pick_mem' {picks : List Nat} {i : Nat} {l : List Nat} (h : l ≠ []) : l.getD (pickK picks i l.length) 0 ∈ l := by
  have hp : 0 < l.length := List.length_pos_iff.2 h
  refine mem_getD ?_
  unfold pickK
  split
  · exact Nat.mod_lt _ hp
  · exact hp
/-- what holds while gates switch -/
structure PInv (c : Circ) (inn : Nat) (ns : List Nd) (st : Nat) (ts : List Nat) : Prop where
  has : hasS ns st = true
  len : ts.length = c.gates.length
  one : ∀ k, 1 ≤ ts.getD k 0 → ∃ ms, reachP c inn (afterP c inn ns k) = some ms ∧ hasS ms st = true
  two : ∀ k, 2 ≤ ts.getD k 0 → glitchAt c inn ns k = true
theorem PInv.step (hg : c.Good) {B : List Nat} {U : Nat → Prop} (R : Reached c inn B U ns) {st : Nat} {ts : List Nat} (h : PInv c inn ns st ts) {q : Nat} (hq : q ∈ nextL c st inn) : PInv c inn ns (flip st q) (ts.set q (ts.getD q 0 + 1)) := by
  obtain ⟨x, hx, e⟩ := hasS_iff.1 h.has
  have hqg := nextL_lt hq
  have hafter : ∀ k, ∃ ms, reachP c inn (afterP c inn ns k) = some ms ∧ Reached c inn (afterP c inn ns k) (· ∈ ns.map Nd.state) ms := fun k => R.sub (B2 := afterP c inn ns k) (by
    intro t ht
    unfold afterP at ht
    obtain ⟨x, hx, rfl⟩ := List.mem_map.1 ht
    obtain ⟨hx1, hx2⟩ := List.mem_filter.1 hx
    obtain ⟨y, hy, e⟩ := hasS_iff.1 (R.cl x hx1 k (mem_nextM hg hx2))
    exact List.mem_map.2 ⟨y, hy, e⟩)
  have hstep : ∀ {k ms}, reachP c inn (afterP c inn ns k) = some ms → hasS ms st = true → hasS ms (flip st q) = true := by
    intro k ms hm hs
    obtain ⟨ms', h1, R1⟩ := hafter k
    rw [hm] at h1; cases h1
    obtain ⟨y, hy, ey⟩ := hasS_iff.1 hs
    have := R1.cl y hy q (by rw [ey]; exact hq)
    rwa [ey] at this
  refine ⟨by have := R.cl x hx q (by rw [e]; exact hq); rwa [e] at this, by simp [h.len], fun k hk => ?_, fun k hk => ?_⟩
  · rw [getD_set _ _ _ _ (by rw [h.len]; exact hqg)] at hk
    by_cases hkq : q = k
    · subst hkq
      obtain ⟨ms, h1, R1⟩ := hafter q
      refine ⟨ms, h1, R1.bg _ ?_⟩
      unfold afterP
      exact List.mem_map.2 ⟨x, List.mem_filter.2 ⟨hx, mem_nextM' (by rw [e]; exact hq)⟩, by rw [e]⟩
    · rw [if_neg hkq] at hk
      obtain ⟨ms, h1, h2⟩ := h.one k hk
      exact ⟨ms, h1, hstep h1 h2⟩
  · rw [getD_set _ _ _ _ (by rw [h.len]; exact hqg)] at hk
    by_cases hkq : q = k
    · subst hkq
      rw [if_pos rfl] at hk
      obtain ⟨ms, h1, h2⟩ := h.one q (by omega)
      obtain ⟨y, hy, ey⟩ := hasS_iff.1 h2
      rw [glitchAt_of h1]
      exact List.any_eq_true.2 ⟨y, hy, mem_nextM' (by rw [ey]; exact hq)⟩
    · rw [if_neg hkq] at hk
      exact h.two k hk
theorem play_inv (hg : c.Good) {B : List Nat} {U : Nat → Prop} (R : Reached c inn B U ns) (he : endsP c inn ns = true) (picks : List Nat) : ∀ (f i st : Nat) (ts : List Nat), PInv c inn ns st ts → ns.length ≤ posS c inn ns st + f →
    PInv c inn ns (playGo c inn picks f i st ts).1 (playGo c inn picks f i st ts).2.1 ∧ (playGo c inn picks f i st ts).2.2 = true ∧ nextL c (playGo c inn picks f i st ts).1 inn = []
  | 0, i, st, ts, h, hf => by have := pos_lt R.toCl he h.has; omega
  | f + 1, i, st, ts, h, hf => by
    by_cases hn : nextL c st inn = []
    · rw [playGo_end hn]; exact ⟨h, rfl, hn⟩
    · have hq := pick_mem' (picks := picks) (i := i) hn
      rw [playGo_step hn rfl]
      obtain ⟨x, hx, e⟩ := hasS_iff.1 h.has
      have ht := topo R.toCl he hx (k := (nextL c st inn).getD (pickK picks i (nextL c st inn).length) 0) (by rw [e]; exact hq)
      rw [e] at ht
      exact play_inv hg R he picks f (i + 1) _ _ (h.step hg R hq) (by omega)
theorem one_rest (hd : (rests c inn ns).length ≤ 1) {i j : Nat} {x y : Nd} (hi : ns[i]? = some x) (hj : ns[j]? = some y) (hx : isRest c inn x = true) (hy : isRest c inn y = true) : i = j := by
  have mi : i ∈ rests c inn ns := List.mem_filter.2 ⟨List.mem_range.2 (List.getElem?_eq_some_iff.1 hi).1, by rw [restAt_some hi]; exact hx⟩
  have mj : j ∈ rests c inn ns := List.mem_filter.2 ⟨List.mem_range.2 (List.getElem?_eq_some_iff.1 hj).1, by rw [restAt_some hj]; exact hy⟩
  match h : rests c inn ns, hd with
  | [], _ => rw [h] at mi; cases mi
  | [a], _ => rw [h] at mi mj; simp at mi mj; rw [mi, mj]
theorem settled_unique (hg : c.Good) (hd : (rests c inn ns).length ≤ 1) {s : Nat} (hs : hasS ns s = true) (hn : nextL c s inn = []) : settledP c inn ns = s := by
  obtain ⟨j, y, hj, ey⟩ := hasS_at hs
  have hy : isRest c inn y = true := (rest_iff hg).2 (by rw [ey]; exact hn)
  obtain ⟨k, x, _, h2, _, h4⟩ := settled_at ⟨y, List.mem_of_getElem? hj, hy⟩
  have hx : isRest c inn x = true := by
    unfold settledP at h4
    have hex : ns.find? (isRest c inn) ≠ none := by
      rw [Ne, List.find?_eq_none]
      exact fun h => h y (List.mem_of_getElem? hj) hy
    obtain ⟨z, hz⟩ := Option.ne_none_iff_exists'.1 hex
    obtain ⟨k', x', _, a2, a3, a4⟩ := settled_at ⟨y, List.mem_of_getElem? hj, hy⟩
    have hzr := List.find?_some hz
    rw [hz] at h4
    simp only at h4
    have : nextL c x.state inn = [] := by rw [← h4]; exact (rest_iff hg).1 hzr
    exact (rest_iff hg).2 this
  have := one_rest hd hj h2 hy hx
  subst this
  rw [hj] at h2; cases h2
  rw [h4, ey]
/-- RelaysOrders, in plain words -/
theorem orders {st : Nat} (hg : c.Good) (hst : st < 2 ^ c.gates.length) (hre : reachP c inn [st] = some ns) (hk : (raceP c inn ns).kind = 0) (picks : List Nat) :
    (playGo c inn picks 1000 0 st (List.replicate c.gates.length 0)).1 = settledP c inn ns ∧ (playGo c inn picks 1000 0 st (List.replicate c.gates.length 0)).2.2 = true ∧
    (playGo c inn picks 1000 0 st (List.replicate c.gates.length 0)).2.1.length = c.gates.length ∧
    ∀ k, 1 < (playGo c inn picks 1000 0 st (List.replicate c.gates.length 0)).2.1.getD k 0 → k ∈ glitchesP c inn ns := by
  have R := reach_spec (U := (· < 2 ^ c.gates.length)) (closed_lt hg) (by simpa using hst) hre
  obtain ⟨hr, he⟩ := race_zero R hk
  have hz : ∀ k, (List.replicate c.gates.length 0).getD k 0 = 0 := fun k => by simp [List.getD, List.getElem?_replicate]; split <;> simp
  obtain ⟨h1, h2, h3⟩ := play_inv hg R he picks 1000 0 st (List.replicate c.gates.length 0) ⟨R.bg st (by simp), by simp, fun k hk => by rw [hz] at hk; omega, fun k hk => by rw [hz] at hk; omega⟩ (by have := R.len; omega)
  refine ⟨(settled_unique hg hr h1.has h3).symm, h2, h1.len, fun k hk => ?_⟩
  have hkl : k < c.gates.length := by
    rw [← h1.len]
    rcases Nat.lt_or_ge k (playGo c inn picks 1000 0 st (List.replicate c.gates.length 0)).2.1.length with h | h
    · exact h
    · simp [List.getD, h] at hk
  exact List.mem_filter.2 ⟨List.mem_range.2 hkl, h1.two k hk⟩
end
end Ry
end Go.Proofs.Yteocjpnckciboaa

set_option autoImplicit false
set_option linter.unusedVariables false
namespace Go.Proofs.Yteocjpnckciboaa
open Go.Gv
open Go.RowKit
namespace Ry
section
variable {c : Circ} {inn : Nat} {ns : List Nd}
theorem goes_append : ∀ (l1 l2 : List Nat) (s : Nat), goesGo c inn (l1 ++ l2) s = (goesGo c inn l1 s).bind (goesGo c inn l2)
  | [], l2, s => rfl
  | k :: l1, l2, s => by
    simp only [List.cons_append, goesGo]
    split
    · exact goes_append l1 l2 _
    · rfl
theorem way_goes {s0 : Nat} {U : Nat → Prop} (I : Inv0 c inn [s0] U ns) : ∀ (i : Nat) (x : Nd), ns[i]? = some x → goesGo c inn (wayP ns i) s0 = some x.state := by
  intro i
  induction i using Nat.strongRecOn with
  | _ i ih =>
    intro x hx
    rcases I.ed x (List.mem_of_getElem? hx) with ⟨h1, h2⟩ | ⟨y, h1, h2, h3, h4⟩
    · unfold wayP
      rw [wayR_end hx h1]
      simp at h2
      simp [goesGo, h2]
    · have hf : x.frm = (x.frm.toNat : Nat) := by omega
      have hlt := I.wf i x hx
      unfold wayP
      rw [wayR_step I.wf hx hf, List.reverse_cons, goes_append]
      have := ih x.frm.toNat (by omega) y h2
      unfold wayP at this
      rw [this]
      simp [goesGo, h3, h4]
theorem backAt_cons {s : Nat} {ms : List Nd} : ∀ (l : List Nd) (i : Nat), backAt c inn s ms i l ≠ [] → ∃ (j k : Nat) (x : Nd), l[j]? = some x ∧ k ∈ nextL c x.state inn ∧ flip x.state k = s ∧ backAt c inn s ms i l = wayP ms (i + j) ++ [k]
  | [], _, h => absurd rfl h
  | y :: l, i, h => by
    cases hf : (nextL c y.state inn).find? (fun k => flip y.state k == s) with
    | some q =>
      have h1 := List.find?_some hf
      exact ⟨0, q, y, rfl, List.mem_of_find?_eq_some hf, by simpa using h1, by rw [backAt_hit hf]; rfl⟩
    | none =>
      rw [backAt_skip hf] at h ⊢
      obtain ⟨j, k, x, h1, h2, h3, h4⟩ := backAt_cons l (i + 1) h
      exact ⟨j + 1, k, x, by simpa using h1, h2, h3, by rw [h4]; congr 2; omega⟩
theorem back_goes {s : Nat} {ms : List Nd} {U : Nat → Prop} (hre : reachP c inn [s] = some ms) (R : Reached c inn [s] U ms) (h : backP c inn s ≠ []) : goesGo c inn (backP c inn s) s = some s := by
  unfold backP at h ⊢
  rw [hre] at h ⊢
  simp only at h ⊢
  obtain ⟨j, k, x, h1, h2, h3, h4⟩ := backAt_cons ms 0 h
  rw [Nat.zero_add] at h4
  rw [h4, goes_append, way_goes R.toInv0 j x h1]
  simp [goesGo, h2, h3]
theorem loopFrom_cons : ∀ (l : List Nd) (i : Nat), (loopFrom c inn ns i l).kind ≠ 0 → ∃ (j : Nat) (x : Nd), l[j]? = some x ∧ backP c inn x.state ≠ [] ∧ loopFrom c inn ns i l = ⟨2, wayP ns (i + j), backP c inn x.state⟩
  | [], _, h => absurd rfl h
  | y :: l, i, h => by
    by_cases hb : backP c inn y.state = []
    · rw [loopFrom_skip hb] at h ⊢
      obtain ⟨j, x, h1, h2, h3⟩ := loopFrom_cons l (i + 1) h
      exact ⟨j + 1, x, by simpa using h1, h2, by rw [h3]; congr 2; omega⟩
    · exact ⟨0, y, rfl, hb, by rw [loopFrom_hit hb]; rfl⟩
theorem loopFrom_nil : ∀ (l : List Nd) (i : Nat), (loopFrom c inn ns i l).kind = 0 → loopFrom c inn ns i l = ⟨0, [], []⟩
  | [], _, _ => rfl
  | y :: l, i, h => by
    by_cases hb : backP c inn y.state = []
    · rw [loopFrom_skip hb] at h ⊢
      exact loopFrom_nil l (i + 1) h
    · rw [loopFrom_hit hb] at h; cases h
inductive Wit (c : Circ) (inn st : Nat) : Rc → Prop
  | none : Wit c inn st ⟨0, [], []⟩
  | two (a b : List Nat) (x y : Nat) : goesGo c inn a st = some x → goesGo c inn b st = some y → x ≠ y → nextL c x inn = [] → nextL c y inn = [] → x < 2 ^ c.gates.length → y < 2 ^ c.gates.length → Wit c inn st ⟨1, a, b⟩
  | loop (a b : List Nat) (x : Nat) : goesGo c inn a st = some x → goesGo c inn b x = some x → b ≠ [] → x < 2 ^ c.gates.length → Wit c inn st ⟨2, a, b⟩
theorem rests_rest (hg : c.Good) {q : Nat} (h : q < (rests c inn ns).length) : ∃ x, ns[(rests c inn ns).getD q 0]? = some x ∧ nextL c x.state inn = [] := by
  have hm := mem_getD (d := 0) h
  have hl := rests_lt h
  refine ⟨_, List.getElem?_eq_getElem hl, ?_⟩
  have h2 := (List.mem_filter.1 hm).2
  rw [restAt_some (List.getElem?_eq_getElem hl)] at h2
  exact (rest_iff hg).1 h2
theorem witness {st : Nat} (hg : c.Good) (hst : st < 2 ^ c.gates.length) (hre : reachP c inn [st] = some ns) : Wit c inn st (raceP c inn ns) := by
  have R := reach_spec (U := (· < 2 ^ c.gates.length)) (closed_lt hg) (by simpa using hst) hre
  by_cases h1 : 1 < (rests c inn ns).length
  · rw [raceP_two h1]
    obtain ⟨x, hx, hxn⟩ := rests_rest (c := c) (inn := inn) (ns := ns) hg (show 0 < _ by omega)
    obtain ⟨y, hy, hyn⟩ := rests_rest (c := c) (inn := inn) (ns := ns) hg h1
    refine .two _ _ x.state y.state (way_goes R.toInv0 _ _ hx) (way_goes R.toInv0 _ _ hy) (fun e => ?_) hxn hyn (R.u x (List.mem_of_getElem? hx)) (R.u y (List.mem_of_getElem? hy))
    have h2 := nd_inj R.nd hx hy e
    have hnd : (rests c inn ns).Nodup := List.Pairwise.filter _ List.nodup_range
    have h3 := List.pairwise_iff_getElem.1 hnd 0 1 (by omega) h1 (by omega)
    apply h3
    have e0 : (rests c inn ns).getD 0 0 = (rests c inn ns)[0]'(by omega) := by simp [List.getD]; rw [List.getElem?_eq_getElem (by omega)]; rfl
    have e1 : (rests c inn ns).getD 1 0 = (rests c inn ns)[1]'h1 := by simp [List.getD, h1]
    rw [← e0, ← e1]; exact h2
  · cases he : endsP c inn ns with
    | true => rw [raceP_ends h1 he]; exact .none
    | false =>
      rw [raceP_loop h1 he]
      by_cases hk : (loopFrom c inn ns 0 ns).kind = 0
      · rw [loopFrom_nil ns 0 hk]; exact .none
      · obtain ⟨j, x, hx, hb, e⟩ := loopFrom_cons ns 0 hk
        rw [Nat.zero_add] at e
        rw [e]
        obtain ⟨ms, hm, R1⟩ := R.sub (B2 := [x.state]) (by simp; exact ⟨x, List.mem_of_getElem? hx, rfl⟩)
        exact .loop _ _ x.state (way_goes R.toInv0 j x hx) (back_goes hm R1 hb) hb (R.u x (List.mem_of_getElem? hx))
/-! small lemmas for the laws -/
theorem settleR_zero {st im : Int} (h : (settleR c st im).2 = 0) : c.ready st im = 0 ∧ ∃ ns, reachP c im.toNat [st.toNat] = some ns ∧ (raceP c im.toNat ns).kind = 0 ∧ settleR c st im = (settledP c im.toNat ns, 0) := by
  by_cases hr : c.ready st im = 0
  · cases hre : reachP c im.toNat [st.toNat] with
    | none => rw [settleR_full hr hre] at h; cases h
    | some ns =>
      by_cases hk : (raceP c im.toNat ns).kind = 0
      · exact ⟨hr, ns, rfl, hk, settleR_ok hr hre hk⟩
      · rw [settleR_race hr hre hk] at h; cases h
  · rw [settleR_bad hr] at h; exact absurd h hr
theorem raceR_zero {st im : Int} (h : (raceR c st im).2 = 0) : c.ready st im = 0 ∧ ∃ ns, reachP c im.toNat [st.toNat] = some ns ∧ raceR c st im = (raceP c im.toNat ns, 0) := by
  by_cases hr : c.ready st im = 0
  · cases hre : reachP c im.toNat [st.toNat] with
    | none => rw [raceR_full hr hre] at h; cases h
    | some ns => exact ⟨hr, ns, rfl, raceR_ok hr hre⟩
  · rw [raceR_bad hr] at h; exact absurd h hr
end
end Ry
end Go.Proofs.Yteocjpnckciboaa

set_option autoImplicit false
set_option linter.unusedVariables false
namespace Go.Proofs.Yteocjpnckciboaa
open Go.Gv
open Go.RowKit
open Ry
set_option maxRecDepth 100000 in
set_option maxHeartbeats 1000000 in
theorem played_ok (c : Circ) (s0 inn : Nat) (picks : List Nat) (pa : Option Addr) (pcp most : Nat) (w0 : World) (hc : c.In w0 []) (hgd : c.Good) (hck : c.check = 0) (hst0 : s0 < 2 ^ c.gates.length) (hin : inn < 2 ^ c.inputs.toNat) (hpk : OldSl w0 [] pa picks.length 1 (picks.map fun n : Nat => Value.int .u8 (n : Int))) (hpl : picks.length ≤ 140737488355328) (hp8 : ∀ n ∈ picks, n < 256) (hm : most ≤ 100000) : Sp Try.prog 15 [c.val, natV s0, natV inn, .slice pa picks.length pcp, natV most] w0 [] (fun v l => ∃ r cp, v = .tuple #[natV (playGo c inn picks (most + 1) 0 s0 (List.replicate c.gates.length 0)).1, .slice (rowA r) (playGo c inn picks (most + 1) 0 s0 (List.replicate c.gates.length 0)).2.1.length cp, .bool (playGo c inn picks (most + 1) 0 s0 (List.replicate c.gates.length 0)).2.2] ∧ l = [.row 3 1 r (playGo c inn picks (most + 1) 0 s0 (List.replicate c.gates.length 0)).2.1.length cp ((playGo c inn picks (most + 1) 0 s0 (List.replicate c.gates.length 0)).2.1.map natV)]) := by
  have hin2 := in_lt hgd hin
  have hg12 := hgd.g12
  refine spec_enter Try.func15 rfl Try.ntmps15 rfl (Own.refl _) ?_
  simp only [argEnv]
  refine gc_seq ?_
  refine gc_region ?_
  refine gl_op (op_box rfl rfl rfl (fun b5 => ?_))
  refine gl_op (op_rd rfl (rd_assign rfl) ?_)
  refine gl_op (op_rd rfl (rd_assign rfl) ?_)
  refine gl_op (op_rd rfl (rd_assign rfl) ?_)
  refine gl_nil ?_
  refine gx_then ?_
  refine gc_seq ?_
  refine gc_region ?_
  refine gl_op (op_rd rfl (rd_fieldAddr rfl (fa_25_1 _)) ?_)
  refine gl_op (op_rd rfl (rd_load Try.underlying22 rfl rfl (by first | exact ld_blk 0 rfl rfl | exact ld_old (by assumption) (by simp) | exact ld_cells (by assumption) (by simp) rfl)) ?_)
  refine gl_op (op_rd rfl (rd_lenSlice Try.underlying22 rfl) ?_)
  refine gl_op (op_makeSlice (c.gates.length) Try.underlying23 ty_3 rfl rfl rfl (by omega) (by omega) (by omega) (by omega) (fun b21 => ?_))
  refine gl_op (op_rd rfl (rd_assign rfl) ?_)
  refine gl_nil ?_
  refine gx_then ?_
  refine gc_seq ?_
  refine gc_seq ?_
  rw [made_one _ rfl, show (List.replicate c.gates.length (Value.int .i64 0)) = (List.replicate c.gates.length 0).map natV by simp]
  refine gc_region ?_
  refine gl_op (op_rd rfl (rd_assign rfl) ?_)
  refine gl_nil ?_
  refine gx_then ?_
  refine gc_block ?_
  refine gc_loopF (ι := Nat × Nat × List Nat) [(2, _), (3, _), (4, _), (5, _), (13, _)] [_] (fun j => j.1 ≤ most + 1 ∧ playGo c inn picks (most + 1 - j.1) j.1 j.2.1 j.2.2 = playGo c inn picks (most + 1) 0 s0 (List.replicate c.gates.length 0) ∧ j.2.1 < 2 ^ c.gates.length ∧ j.2.2.length = c.gates.length ∧ (∀ k, j.2.2.getD k 0 ≤ j.1)) (fun j Fr0 => ((1, natV j.2.1) :: (14, natV j.1) :: Fr0)) (fun j Fr0 => (.row 3 1 (some b21) c.gates.length c.gates.length (j.2.2.map natV) :: Fr0)) (fun j => most + 1 - j.1) (0, s0, List.replicate c.gates.length 0) (⟨Nat.zero_le _, rfl, hst0, by simp, fun k => by simp [List.getD, List.getElem?_replicate]; split <;> simp⟩) ⟨rfl, rfl, rfl, rfl, rfl, rfl, rfl, trivial⟩ ⟨[0, 1], by decide, rfl⟩ ?_
  rintro ⟨i, st, ts⟩ ⟨hi, hgo, hst, htl, htb⟩
  simp only at hi hgo hst htl htb ⊢
  have hst2 := st_lt hgd hst
  refine gc_seq ?_
  refine gc_seq ?_
  refine gc_region ?_
  refine gl_op (op_rd rfl (rd_move rfl) ?_)
  refine gl_op (op_rd rfl (rd_move rfl) ?_)
  refine gl_op (op_rd rfl (rd_leq rfl rfl) (gk_dec (fun hle => ?_) (fun hle => ?_)))
  · skip
    refine gl_nil ?_
    refine gx_then ?_
    refine gc_cond_t rfl ?_
    refine gc_skip ?_
    refine gx_then ?_
    refine gc_seq ?_
    refine gc_block ?_
    refine gc_seq ?_
    refine gc_region ?_
    refine gl_op (op_rd rfl (rd_loadAgg Try.underlying25 rfl ty_25 rfl (by first | exact cs_blk 1 (off := 0) (k := 3) rfl rfl | exact cs_old (by assumption) (by simp)) rfl) ?_)
    refine gl_op (op_rd rfl (rd_move rfl) ?_)
    refine gl_op (op_rd rfl (rd_move rfl) ?_)
    refine gl_op (op_call rfl (vf := []) (vc := []) rfl rfl Try.call20 (fun w ho => rNextN_ok c st inn w (hc.at ho) (st_lt hgd hst) hin2 (ready_nat hck hst hin)) ?_)
    rintro _ _ ⟨ks, rn, cn, hks, rfl, rfl⟩
    have hkl : ks.length ≤ 12 := by rw [← hks]; exact Nat.le_trans (nextL_len c st inn) hg12
    refine gl_op (op_rd rfl (rd_move rfl) ?_)
    refine gl_op (op_rd rfl (rd_extract rfl rfl) ?_)
    refine gl_op (op_rd rfl (rd_extract rfl rfl) ?_)
    refine gl_op (op_rd rfl (rd_assign rfl) ?_)
    refine gl_op (op_rd rfl (rd_assign rfl) ?_)
    refine gl_nil ?_
    refine gx_then ?_
    refine gc_seq ?_
    refine gc_seq ?_
    refine gc_region ?_
    refine gl_op (op_rd rfl (rd_move rfl) ?_)
    refine gl_op (op_rd rfl (rd_lenSlice Try.underlying23 rfl) ?_)
    refine gl_op (op_rd rfl (rd_eql rfl rfl) (gk_dec (fun hnil => ?_) (fun hnil => ?_)))
    · skip
      have hks0 : ks = [] := List.eq_nil_of_length_eq_zero (by omega)
      refine gl_nil ?_
      refine gx_then ?_
      refine gc_cond_t rfl ?_
      refine gc_seq ?_
      refine gc_region ?_
      refine gl_op (op_rd rfl (rd_move rfl) ?_)
      refine gl_op (op_rd rfl (rd_move rfl) ?_)
      refine gl_op (op_rd rfl (rd_assign rfl) ?_)
      refine gl_op (op_rd rfl (rd_assign rfl) ?_)
      refine gl_op (op_rd rfl (rd_assign rfl) ?_)
      refine gl_nil ?_
      refine gx_then ?_
      refine gc_ret ?_
      refine gx_then_ret ?_
      refine gx_block_ret ?_
      refine gx_then_ret ?_
      refine gx_then_ret ?_
      refine gx_block_ret ?_
      refine gx_then_ret ?_
      refine gx_ret3 (.inl rfl) Try.results15 rfl rfl rfl [1] (by decide) ?_
      rw [← hgo, show most + 1 - i = (most - i) + 1 by omega, playGo_end (by rw [hks]; exact hks0)]
      exact ⟨some b21, c.gates.length, by simp only [htl] <;> rfl, by simp only [htl] <;> rfl⟩
    · skip
      have hks0 : ks ≠ [] := fun e => hnil (by rw [e]; rfl)
      have hkp : 0 < ks.length := List.length_pos_iff.2 hks0
      refine gl_nil ?_
      refine gx_then ?_
      refine gc_cond_f rfl ?_
      refine gc_skip ?_
      refine gx_then ?_
      refine gc_seq ?_
      refine gc_region ?_
      refine gl_op (op_rd rfl (rd_assign rfl) ?_)
      refine gl_nil ?_
      refine gx_then ?_
      refine gc_seq ?_
      refine gc_seq ?_
      refine gc_region ?_
      refine gl_op (op_rd rfl (rd_move rfl) ?_)
      refine gl_op (op_rd rfl (rd_lenSlice Try.underlying27 rfl) ?_)
      refine gl_op (op_rd rfl (rd_gtr rfl rfl) (gk_dec (fun hpp => ?_) (fun hpp => ?_)))
      · skip
        have hpp2 : 0 < picks.length := by omega
        have hpil : i % picks.length < picks.length := Nat.mod_lt i hpp2
        have hp2 := hp8 _ (mem_getD (d := 0) hpil)
        obtain ⟨qq, hqq⟩ : ∃ q, picks.getD (i % picks.length) 0 % ks.length = q := ⟨_, rfl⟩
        have hq : qq < ks.length := by rw [← hqq]; exact Nat.mod_lt _ hkp
        have hqp : pickK picks i ks.length = qq := by rw [pickK_pos hpp2, hqq]
        obtain ⟨kk, hkk⟩ : ∃ k, ks.getD qq 0 = k := ⟨_, rfl⟩
        have hkk' : ks.getD (pickK picks i ks.length) 0 = kk := by rw [hqp]; exact hkk
        have hkg : kk < c.gates.length := nextL_lt (c := c) (st := st) (inn := inn) (by rw [hks, ← hkk]; exact mem_getD (d := 0) hq)
        have htk := htb kk
        refine gl_nil ?_
        refine gx_then ?_
        refine gc_cond_t rfl ?_
        refine gc_region ?_
        refine gl_op (op_rd rfl (rd_move rfl) ?_)
        refine gl_op (op_rd rfl (rd_move rfl) ?_)
        refine gl_op (op_rd rfl (rd_move rfl) ?_)
        refine gl_op (op_rd rfl (rd_lenSlice Try.underlying27 rfl) ?_)
        refine gl_op (op_rd rfl (by first | exact rd_remN rfl rfl (by omega) | exact rd_rem rfl rfl (by omega) (by omega)) ?_)
        refine gl_op (op_rd rfl (by first | exact rd_indexRow1 0 rfl Try.underlying27 ty_5 rfl rfl (by omega) (by omega) | exact rd_indexRow1 1 rfl Try.underlying27 ty_5 rfl rfl (by omega) (by omega) | exact rd_indexOld1 (by assumption) Try.underlying27 ty_5 rfl rfl (by omega) (by omega) | exact rd_index1 Try.underlying27 ty_5 rfl rfl (by omega) (by omega)) ?_)
        refine gl_op (op_rd rfl (rd_load Try.underlying5 rfl rfl (ld_slN hpk (get_u8 hpil))) ?_)
        refine gl_op (op_rd rfl (rd_conv Try.runUnderlying5 Try.runUnderlying3 rfl (wrap64_ok (by omega) (by omega))) ?_)
        refine gl_op (op_rd rfl (rd_move rfl) ?_)
        refine gl_op (op_rd rfl (rd_lenSlice Try.underlying23 rfl) ?_)
        refine gl_op (op_rd rfl (by first | exact rd_remN rfl rfl (by omega) | exact rd_rem rfl rfl (by omega) (by omega)) ?_)
        refine gl_op (op_rd rfl (rd_assign rfl) ?_)
        refine gl_nil ?_
        refine gx_then ?_
        refine gc_seq ?_
        try rw [hqq]
        refine gc_region ?_
        refine gl_op (op_rd rfl (rd_move rfl) ?_)
        refine gl_op (op_rd rfl (rd_move rfl) ?_)
        refine gl_op (op_rd rfl (rd_move rfl) ?_)
        refine gl_op (op_rd rfl (by first | exact rd_indexRow1 0 rfl Try.underlying23 ty_3 rfl rfl (by omega) (by omega) | exact rd_indexRow1 1 rfl Try.underlying23 ty_3 rfl rfl (by omega) (by omega) | exact rd_indexOld1 (by assumption) Try.underlying23 ty_3 rfl rfl (by omega) (by omega) | exact rd_index1 Try.underlying23 ty_3 rfl rfl (by omega) (by omega)) ?_)
        refine gl_op (op_rd rfl (rd_load Try.underlying3 rfl rfl (ld_rowN 0 rfl (get_nats hq))) ?_)
        rw [hkk]
        refine gl_op (op_call rfl (vf := []) (vc := []) rfl rfl Try.call44 (fun w ho => switched_ok st kk w hst2 (by omega)) ?_)
        rintro _ _ ⟨rfl, rfl⟩
        refine gl_op (op_rd rfl (rd_assign rfl) ?_)
        refine gl_nil ?_
        refine gx_then ?_
        refine gc_region ?_
        refine gl_op (op_rd rfl (rd_move rfl) ?_)
        refine gl_op (op_rd rfl (rd_move rfl) ?_)
        refine gl_op (op_rd rfl (rd_move rfl) ?_)
        refine gl_op (op_rd rfl (by first | exact rd_indexRow1 0 rfl Try.underlying23 ty_3 rfl rfl (by omega) (by omega) | exact rd_indexRow1 1 rfl Try.underlying23 ty_3 rfl rfl (by omega) (by omega) | exact rd_indexOld1 (by assumption) Try.underlying23 ty_3 rfl rfl (by omega) (by omega) | exact rd_index1 Try.underlying23 ty_3 rfl rfl (by omega) (by omega)) ?_)
        refine gl_op (op_rd rfl (rd_load Try.underlying3 rfl rfl (ld_rowN 0 rfl (get_nats hq))) ?_)
        rw [hkk]
        refine gl_op (op_rd rfl (rd_indexRow1 1 rfl Try.underlying23 ty_3 rfl rfl (by omega) (by omega)) ?_)
        refine gl_op (op_rd rfl (rd_load Try.underlying3 rfl rfl (ld_rowN 1 rfl (get_nats (by omega)))) ?_)
        refine gl_op (op_rd rfl (by first | exact rd_addN (b := 1) rfl rfl (by omega) | exact rd_add rfl rfl (by omega) (by omega)) ?_)
        refine gl_op (op_rd rfl (rd_indexRow1 1 rfl Try.underlying23 ty_3 rfl rfl (by omega) (by omega)) ?_)
        first | refine gl_op (op_store 2 ty_3 rfl rfl rfl rfl rfl (by first | rfl | (simp only [List.set_cons_succ, List.set_cons_zero]; exact rfl)) (by first | rfl | (simp only [List.set_cons_succ, List.set_cons_zero]; exact rfl)) ?_) | refine gl_op (op_storeRow 0 ty_3 rfl rfl rfl rfl (by simp; omega) (by first | rfl | (simp only [List.set_cons_succ, List.set_cons_zero]; exact rfl)) ?_) | refine gl_op (op_storeRow 1 ty_3 rfl rfl rfl rfl (by simp; omega) (by first | rfl | (simp only [List.set_cons_succ, List.set_cons_zero]; exact rfl)) ?_)
        refine gl_nil ?_
        refine gx_block ?_
        refine gx_then ?_
        simp only [Int.toNat_natCast, map_set_succ]
        refine gc_region ?_
        refine gl_op (op_rd rfl (rd_move rfl) ?_)
        refine gl_op (op_rd rfl (by first | exact rd_addN (b := 1) rfl rfl (by omega) | exact rd_add rfl rfl (by omega) (by omega)) ?_)
        refine gl_op (op_rd rfl (rd_assign rfl) ?_)
        refine gl_nil ?_
        refine gx_then ?_
        exact gx_cut ((i + 1, flip st kk, ts.set kk (ts.getD kk 0 + 1))) ⟨⟨by simp only; omega, by simp only; rw [← hgo, show most + 1 - i = (most + 1 - (i + 1)) + 1 by omega, playGo_step (k := kk) (by rw [hks]; exact hks0) (by rw [hks]; exact hkk')], flip_lt hst hkg, by simp [htl], fun q => by simp only; rw [getD_set _ _ _ _ (by omega)]; have := htb q; have := htb kk; split <;> omega⟩, by simp only; omega⟩ ⟨rfl, rfl, rfl, rfl, rfl, rfl, rfl, trivial⟩ ⟨[1, 2], by decide, rfl⟩
      · skip
        have hpp2 : ¬ 0 < picks.length := by omega
        obtain ⟨qq, hqq⟩ : ∃ q : Nat, q = 0 := ⟨0, rfl⟩
        have hq : qq < ks.length := by omega
        have hqp : pickK picks i ks.length = qq := by rw [pickK_zero hpp2, hqq]
        obtain ⟨kk, hkk⟩ : ∃ k, ks.getD qq 0 = k := ⟨_, rfl⟩
        have hkk' : ks.getD (pickK picks i ks.length) 0 = kk := by rw [hqp]; exact hkk
        have hkg : kk < c.gates.length := nextL_lt (c := c) (st := st) (inn := inn) (by rw [hks, ← hkk]; exact mem_getD (d := 0) hq)
        have htk := htb kk
        subst hqq
        refine gl_nil ?_
        refine gx_then ?_
        refine gc_cond_f rfl ?_
        refine gc_skip ?_
        refine gx_then ?_
        refine gc_seq ?_
        try rw [hqq]
        refine gc_region ?_
        refine gl_op (op_rd rfl (rd_move rfl) ?_)
        refine gl_op (op_rd rfl (rd_move rfl) ?_)
        refine gl_op (op_rd rfl (rd_move rfl) ?_)
        refine gl_op (op_rd rfl (by first | exact rd_indexRow1 0 rfl Try.underlying23 ty_3 rfl rfl (by omega) (by omega) | exact rd_indexRow1 1 rfl Try.underlying23 ty_3 rfl rfl (by omega) (by omega) | exact rd_indexOld1 (by assumption) Try.underlying23 ty_3 rfl rfl (by omega) (by omega) | exact rd_index1 Try.underlying23 ty_3 rfl rfl (by omega) (by omega)) ?_)
        refine gl_op (op_rd rfl (rd_load Try.underlying3 rfl rfl (ld_rowN 0 rfl (get_nats hq))) ?_)
        rw [hkk]
        refine gl_op (op_call rfl (vf := []) (vc := []) rfl rfl Try.call44 (fun w ho => switched_ok st kk w hst2 (by omega)) ?_)
        rintro _ _ ⟨rfl, rfl⟩
        refine gl_op (op_rd rfl (rd_assign rfl) ?_)
        refine gl_nil ?_
        refine gx_then ?_
        refine gc_region ?_
        refine gl_op (op_rd rfl (rd_move rfl) ?_)
        refine gl_op (op_rd rfl (rd_move rfl) ?_)
        refine gl_op (op_rd rfl (rd_move rfl) ?_)
        refine gl_op (op_rd rfl (by first | exact rd_indexRow1 0 rfl Try.underlying23 ty_3 rfl rfl (by omega) (by omega) | exact rd_indexRow1 1 rfl Try.underlying23 ty_3 rfl rfl (by omega) (by omega) | exact rd_indexOld1 (by assumption) Try.underlying23 ty_3 rfl rfl (by omega) (by omega) | exact rd_index1 Try.underlying23 ty_3 rfl rfl (by omega) (by omega)) ?_)
        refine gl_op (op_rd rfl (rd_load Try.underlying3 rfl rfl (ld_rowN 0 rfl (get_nats hq))) ?_)
        rw [hkk]
        refine gl_op (op_rd rfl (rd_indexRow1 1 rfl Try.underlying23 ty_3 rfl rfl (by omega) (by omega)) ?_)
        refine gl_op (op_rd rfl (rd_load Try.underlying3 rfl rfl (ld_rowN 1 rfl (get_nats (by omega)))) ?_)
        refine gl_op (op_rd rfl (by first | exact rd_addN (b := 1) rfl rfl (by omega) | exact rd_add rfl rfl (by omega) (by omega)) ?_)
        refine gl_op (op_rd rfl (rd_indexRow1 1 rfl Try.underlying23 ty_3 rfl rfl (by omega) (by omega)) ?_)
        first | refine gl_op (op_store 2 ty_3 rfl rfl rfl rfl rfl (by first | rfl | (simp only [List.set_cons_succ, List.set_cons_zero]; exact rfl)) (by first | rfl | (simp only [List.set_cons_succ, List.set_cons_zero]; exact rfl)) ?_) | refine gl_op (op_storeRow 0 ty_3 rfl rfl rfl rfl (by simp; omega) (by first | rfl | (simp only [List.set_cons_succ, List.set_cons_zero]; exact rfl)) ?_) | refine gl_op (op_storeRow 1 ty_3 rfl rfl rfl rfl (by simp; omega) (by first | rfl | (simp only [List.set_cons_succ, List.set_cons_zero]; exact rfl)) ?_)
        refine gl_nil ?_
        refine gx_block ?_
        refine gx_then ?_
        simp only [Int.toNat_natCast, map_set_succ]
        refine gc_region ?_
        refine gl_op (op_rd rfl (rd_move rfl) ?_)
        refine gl_op (op_rd rfl (by first | exact rd_addN (b := 1) rfl rfl (by omega) | exact rd_add rfl rfl (by omega) (by omega)) ?_)
        refine gl_op (op_rd rfl (rd_assign rfl) ?_)
        refine gl_nil ?_
        refine gx_then ?_
        exact gx_cut ((i + 1, flip st kk, ts.set kk (ts.getD kk 0 + 1))) ⟨⟨by simp only; omega, by simp only; rw [← hgo, show most + 1 - i = (most + 1 - (i + 1)) + 1 by omega, playGo_step (k := kk) (by rw [hks]; exact hks0) (by rw [hks]; exact hkk')], flip_lt hst hkg, by simp [htl], fun q => by simp only; rw [getD_set _ _ _ _ (by omega)]; have := htb q; have := htb kk; split <;> omega⟩, by simp only; omega⟩ ⟨rfl, rfl, rfl, rfl, rfl, rfl, rfl, trivial⟩ ⟨[1, 2], by decide, rfl⟩
  · skip
    refine gl_nil ?_
    refine gx_then ?_
    refine gc_cond_f rfl ?_
    refine gc_exit ?_
    refine gx_then_exit ?_
    refine gx_then_exit ?_
    refine gx_block_exit ?_
    refine gx_then ?_
    refine gc_seq ?_
    refine gc_region ?_
    refine gl_op (op_rd rfl (rd_move rfl) ?_)
    refine gl_op (op_rd rfl (rd_move rfl) ?_)
    refine gl_op (op_rd rfl (rd_assign rfl) ?_)
    refine gl_op (op_rd rfl (rd_assign rfl) ?_)
    refine gl_op (op_rd rfl (rd_assign rfl) ?_)
    refine gl_nil ?_
    refine gx_then ?_
    refine gc_ret ?_
    refine gx_ret3 (.inl rfl) Try.results15 rfl rfl rfl [0] (by decide) ?_
    rw [← hgo, show most + 1 - i = 0 by omega, playGo]
    exact ⟨some b21, c.gates.length, by simp only [htl] <;> rfl, by simp only [htl] <;> rfl⟩

theorem has_nats_ok (zs : List Nat) (a : Option Addr) (cp : Nat) (n : Nat) (w0 : World) (hsl : OldSl w0 [] a zs.length 1 (zs.map natV)) (hb : zs.length ≤ 140737488355328) : Sp Try.prog 16 [.slice a zs.length cp, natV n] w0 [] (RV (.bool (decide (n ∈ zs)))) := by
  have h := has_ok (zs.map fun n : Nat => (n : Int)) a cp n w0 (by rw [natInt, List.length_map]; exact hsl) (by rw [List.length_map]; exact hb)
  rw [List.length_map] at h
  have e : decide ((n : Int) ∈ zs.map fun n : Nat => (n : Int)) = decide (n ∈ zs) := by
    rw [decide_eq_decide]
    simp only [List.mem_map]
    exact ⟨fun ⟨a, h1, h2⟩ => by have : a = n := by omega
                                 rw [← this]; exact h1, fun h => ⟨n, h, rfl⟩⟩
  rw [e] at h
  exact h

set_option maxRecDepth 100000 in
set_option maxHeartbeats 1000000 in
theorem goes_ok (c : Circ) (s0 inn : Nat) (ks0 : List Nat) (a : Option Addr) (cp : Nat) (w0 : World) (hc : c.In w0 []) (hgd : c.Good) (hck : c.check = 0) (hst0 : s0 < 2 ^ c.gates.length) (hin : inn < 2 ^ c.inputs.toNat) (hsl : OldSl w0 [] a ks0.length 1 (ks0.map natV)) (hlen : ks0.length ≤ 140737488355328) : Sp Try.prog 18 [c.val, natV s0, natV inn, .slice a ks0.length cp] w0 [] (RV (.tuple #[natV ((goesGo c inn ks0 s0).getD 0), .bool (goesGo c inn ks0 s0).isSome])) := by
  have hin2 := in_lt hgd hin
  have hg12 := hgd.g12
  refine spec_enter Try.func18 rfl Try.ntmps18 rfl (Own.refl _) ?_
  simp only [argEnv]
  refine gc_seq ?_
  refine gc_region ?_
  refine gl_op (op_box rfl rfl rfl (fun b4 => ?_))
  refine gl_op (op_rd rfl (rd_assign rfl) ?_)
  refine gl_op (op_rd rfl (rd_assign rfl) ?_)
  refine gl_nil ?_
  refine gx_then ?_
  refine gc_seq ?_
  refine gc_seq ?_
  refine gc_region ?_
  refine gl_op (op_rd rfl (rd_assign rfl) ?_)
  refine gl_nil ?_
  refine gx_then ?_
  refine gc_block ?_
  refine gc_loopF (ι := Nat × Nat) [(2, _), (3, _), (4, _)] [_] (fun j => j.1 ≤ ks0.length ∧ goesGo c inn (ks0.drop j.1) j.2 = goesGo c inn ks0 s0 ∧ j.2 < 2 ^ c.gates.length) (fun j Fr0 => ((1, natV j.2) :: (10, natV j.1) :: Fr0)) (fun j Fr0 => Fr0) (fun j => ks0.length - j.1) (0, s0) (⟨Nat.zero_le _, rfl, hst0⟩) ⟨rfl, rfl, rfl, rfl, rfl, trivial⟩ ⟨[0], by decide, rfl⟩ ?_
  rintro ⟨i, st⟩ ⟨hi, hgo, hst⟩
  simp only at hi hgo hst ⊢
  have hst2 := st_lt hgd hst
  refine gc_seq ?_
  refine gc_seq ?_
  refine gc_region ?_
  refine gl_op (op_rd rfl (rd_move rfl) ?_)
  refine gl_op (op_rd rfl (rd_move rfl) ?_)
  refine gl_op (op_rd rfl (rd_lenSlice Try.underlying23 rfl) ?_)
  refine gl_op (op_rd rfl (rd_lss rfl rfl) (gk_dec (fun hlt => ?_) (fun hlt => ?_)))
  · skip
    refine gl_nil ?_
    refine gx_then ?_
    refine gc_cond_t rfl ?_
    refine gc_skip ?_
    refine gx_then ?_
    refine gc_seq ?_
    refine gc_block ?_
    refine gc_seq ?_
    refine gc_region ?_
    refine gl_op (op_rd rfl (rd_loadAgg Try.underlying25 rfl ty_25 rfl (by first | exact cs_blk 0 (off := 0) (k := 3) rfl rfl | exact cs_old (by assumption) (by simp)) rfl) ?_)
    refine gl_op (op_rd rfl (rd_move rfl) ?_)
    refine gl_op (op_rd rfl (rd_move rfl) ?_)
    refine gl_op (op_call rfl (vf := []) (vc := []) rfl rfl Try.call20 (fun w ho => rNextN_ok c st inn w (hc.at ho) (st_lt hgd hst) hin2 (ready_nat hck hst hin)) ?_)
    rintro _ _ ⟨ks, rn, cn, hks, rfl, rfl⟩
    have hkl : ks.length ≤ 12 := by rw [← hks]; exact Nat.le_trans (nextL_len c st inn) hg12
    refine gl_op (op_rd rfl (rd_move rfl) ?_)
    refine gl_op (op_rd rfl (rd_extract rfl rfl) ?_)
    refine gl_op (op_rd rfl (rd_extract rfl rfl) ?_)
    refine gl_op (op_rd rfl (rd_assign rfl) ?_)
    refine gl_op (op_rd rfl (rd_assign rfl) ?_)
    refine gl_nil ?_
    refine gx_then ?_
    refine gc_seq ?_
    refine gc_seq ?_
    refine gc_region ?_
    refine gl_op (op_rd rfl (rd_move rfl) ?_)
    refine gl_op (op_rd rfl (rd_move rfl) ?_)
    refine gl_op (op_rd rfl (rd_move rfl) ?_)
    refine gl_op (op_rd rfl (by first | exact rd_indexRow1 0 rfl Try.underlying23 ty_3 rfl rfl (by omega) (by omega) | exact rd_indexOld1 (by assumption) Try.underlying23 ty_3 rfl rfl (by omega) (by omega) | exact rd_index1 Try.underlying23 ty_3 rfl rfl (by omega) (by omega)) ?_)
    refine gl_op (op_rd rfl (rd_load Try.underlying3 rfl rfl (ld_slN hsl (get_nats (by omega)))) ?_)
    refine gl_op (op_call rfl (vf := []) (vc := []) rfl rfl Try.call16 (fun w ho => has_nats_ok ks (rowA rn) cn (ks0.getD i 0) w (ho.rowSl 0 rfl) (by omega)) ?_)
    rintro _ _ ⟨rfl, rfl⟩
    refine gk_bool (fun hh => ?_) (fun hh => ?_)
    · skip
      have hm : ks0.getD i 0 ∈ nextL c st inn := by rw [hks]; exact of_decide_eq_true hh
      have hkg := nextL_lt hm
      refine gl_op (op_rd rfl (rd_not rfl) ?_)
      refine gl_nil ?_
      refine gx_then ?_
      refine gc_cond_f rfl ?_
      refine gc_skip ?_
      refine gx_then ?_
      refine gc_region ?_
      refine gl_op (op_rd rfl (rd_move rfl) ?_)
      refine gl_op (op_rd rfl (rd_move rfl) ?_)
      refine gl_op (op_rd rfl (rd_move rfl) ?_)
      refine gl_op (op_rd rfl (by first | exact rd_indexRow1 0 rfl Try.underlying23 ty_3 rfl rfl (by omega) (by omega) | exact rd_indexOld1 (by assumption) Try.underlying23 ty_3 rfl rfl (by omega) (by omega) | exact rd_index1 Try.underlying23 ty_3 rfl rfl (by omega) (by omega)) ?_)
      refine gl_op (op_rd rfl (rd_load Try.underlying3 rfl rfl (ld_slN hsl (get_nats (by omega)))) ?_)
      refine gl_op (op_call rfl (vf := []) (vc := []) rfl rfl Try.call44 (fun w ho => switched_ok st _ w hst2 (by omega)) ?_)
      rintro _ _ ⟨rfl, rfl⟩
      refine gl_op (op_rd rfl (rd_assign rfl) ?_)
      refine gl_nil ?_
      refine gx_block ?_
      refine gx_then ?_
      refine gc_region ?_
      refine gl_op (op_rd rfl (rd_move rfl) ?_)
      refine gl_op (op_rd rfl (by first | exact rd_addN (b := 1) rfl rfl (by omega) | exact rd_add rfl rfl (by omega) (by omega)) ?_)
      refine gl_op (op_rd rfl (rd_assign rfl) ?_)
      refine gl_nil ?_
      refine gx_then ?_
      exact gx_cut ((i + 1, flip st (ks0.getD i 0))) ⟨⟨by simp only; omega, by rw [← hgo, goes_t (by omega) hm], flip_lt hst hkg⟩, by simp only; omega⟩ ⟨rfl, rfl, rfl, rfl, rfl, trivial⟩ ⟨[1], by decide, rfl⟩
    · skip
      have hm : ¬ ks0.getD i 0 ∈ nextL c st inn := by rw [hks]; exact of_decide_eq_false hh
      refine gl_op (op_rd rfl (rd_not rfl) ?_)
      refine gl_nil ?_
      refine gx_then ?_
      refine gc_cond_t rfl ?_
      refine gc_seq ?_
      refine gc_region ?_
      refine gl_op (op_rd rfl (rd_assign rfl) ?_)
      refine gl_op (op_rd rfl (rd_assign rfl) ?_)
      refine gl_nil ?_
      refine gx_then ?_
      refine gc_ret ?_
      refine gx_then_ret ?_
      refine gx_block_ret ?_
      refine gx_then_ret ?_
      refine gx_then_ret ?_
      refine gx_block_ret ?_
      refine gx_then_ret ?_
      refine gx_ret2 (.inl rfl) Try.results18 rfl rfl [] (by decide) ?_
      rw [← hgo, goes_f (by omega) hm]
      exact ⟨rfl, rfl⟩
  · skip
    refine gl_nil ?_
    refine gx_then ?_
    refine gc_cond_f rfl ?_
    refine gc_exit ?_
    refine gx_then_exit ?_
    refine gx_then_exit ?_
    refine gx_block_exit ?_
    refine gx_then ?_
    refine gc_seq ?_
    refine gc_region ?_
    refine gl_op (op_rd rfl (rd_move rfl) ?_)
    refine gl_op (op_rd rfl (rd_assign rfl) ?_)
    refine gl_op (op_rd rfl (rd_assign rfl) ?_)
    refine gl_nil ?_
    refine gx_then ?_
    refine gc_ret ?_
    refine gx_ret2 (.inl rfl) Try.results18 rfl rfl [] (by decide) ?_
    rw [← hgo, List.drop_of_length_le (by omega)]
    exact ⟨rfl, rfl⟩

end Go.Proofs.Yteocjpnckciboaa

set_option autoImplicit false
set_option linter.unusedVariables false
namespace Go.Proofs.Yteocjpnckciboaa
open Go.Gv
open Go.RowKit
open Ry
theorem sound_t (c : Circ) (st inn : Int) (w0 : World) (hc : c.In w0 []) (hst : st ≤ 9223372036854775807) (hin : inn ≤ 9223372036854775807) (hr : c.ready st inn = 0) : Sp Try.prog 13 [c.val, .int .i64 st, .int .i64 inn] w0 [] (RV (.bool true)) := by
  have h := sound_ok c st inn w0 hc hst hin
  rw [decide_eq_true hr] at h
  exact h
theorem GlitchesN_ok (c : Circ) (st inn : Nat) (ns : List Nd) (w0 : World) (hc : c.In w0 []) (hst : st < 4096) (hin : inn < 256) (hF : ∀ im, im < 2 ^ c.inputs.toNat → c.Good → Facts c im) (hr : c.ready st inn = 0) (hre : reachP c inn [st] = some ns) (hk : (raceP c inn ns).kind = 0) : Sp Try.prog 14 [c.val, natV st, natV inn] w0 [] (fun v l => ∃ gl r cp, glitchesP c inn ns = gl ∧ v = .tuple #[.slice (rowA r) gl.length cp, .int .i64 0] ∧ l = [.row 3 1 r gl.length cp (gl.map natV)]) :=
  Sp.mono (Glitches_ok c st inn w0 hc (by omega) (by omega) hF) fun v l h => by
    obtain ⟨r, cp, h1, h2⟩ := h
    rw [glitchesR_ok hr (by simpa using hre) (by simpa using hk)] at h1 h2
    simp only [Int.toNat_natCast] at h1 h2
    exact ⟨_, r, cp, rfl, h1, h2⟩

theorem has_nats_t (zs : List Nat) (a : Option Addr) (cp : Nat) (n : Nat) (w0 : World) (hsl : OldSl w0 [] a zs.length 1 (zs.map natV)) (hb : zs.length ≤ 140737488355328) (hm : n ∈ zs) : Sp Try.prog 16 [.slice a zs.length cp, natV n] w0 [] (RV (.bool true)) := by
  have h := has_nats_ok zs a cp n w0 hsl hb
  rw [decide_eq_true hm] at h
  exact h

set_option maxRecDepth 100000 in
set_option maxHeartbeats 1000000 in
theorem RelaysOrders_ok (c : Circ) (a0 a1 : Int) (picks : List Nat) (pa : Option Addr) (pcp : Nat) (w0 : World) (hc : c.In w0 []) (hst : a0 ≤ 9223372036854775807) (hin : a1 ≤ 9223372036854775807) (hpk : OldSl w0 [] pa picks.length 1 (picks.map fun n : Nat => Value.int .u8 (n : Int))) (hpl : picks.length ≤ 140737488355328) (hp8 : ∀ n ∈ picks, n < 256) (hF : ∀ (c : Circ) (im : Nat), im < 2 ^ c.inputs.toNat → c.Good → Facts c im) : Sp Try.prog 3 [c.val, .agg #[.int .i64 a0, .int .i64 a1], .slice pa picks.length pcp] w0 [] (RV (.bool true)) := by
  refine spec_enter Try.func3 rfl Try.ntmps3 rfl (Own.refl _) ?_
  simp only [argEnv]
  refine gc_seq ?_
  refine gc_region ?_
  refine gl_op (op_box rfl rfl rfl (fun b3 => ?_))
  refine gl_op (op_box rfl rfl rfl (fun b4 => ?_))
  refine gl_op (op_rd rfl (rd_assign rfl) ?_)
  refine gl_nil ?_
  refine gx_then ?_
  refine gc_seq ?_
  refine gc_region ?_
  refine gl_op (op_rd rfl (rd_loadAgg Try.underlying25 rfl ty_25 rfl (by first | exact cs_blk 0 (off := 0) (k := 3) rfl rfl | exact cs_blk 1 (off := 0) (k := 3) rfl rfl | exact cs_old (by assumption) (by simp)) rfl) ?_)
  refine gl_op (op_rd rfl (rd_indexArr Try.underlying26 ty_3 rfl rfl (by omega) (by omega)) ?_)
  refine gl_op (op_rd rfl (rd_load Try.underlying3 rfl rfl (by first | exact ld_blk 0 rfl rfl | exact ld_blk 1 rfl rfl | exact ld_slN (by assumption) (get_nats (by omega)) | exact ld_slN (by assumption) (get_ints (by omega)) | exact ld_old (by assumption) (by simp) | exact ld_cells (by assumption) (by simp) rfl)) ?_)
  refine gl_op (op_rd rfl (rd_indexArr Try.underlying26 ty_3 rfl rfl (by omega) (by omega)) ?_)
  refine gl_op (op_rd rfl (rd_load Try.underlying3 rfl rfl (by first | exact ld_blk 0 rfl rfl | exact ld_blk 1 rfl rfl | exact ld_slN (by assumption) (get_nats (by omega)) | exact ld_slN (by assumption) (get_ints (by omega)) | exact ld_old (by assumption) (by simp) | exact ld_cells (by assumption) (by simp) rfl)) ?_)
  refine gl_op (op_call rfl (vf := []) (vc := []) rfl rfl Try.call11 (fun w ho => Settle_ok c a0 a1 w (hc.at ho) hst hin (hF c)) ?_)
  rintro _ _ ⟨rfl, rfl⟩
  refine gl_op (op_rd rfl (rd_move rfl) ?_)
  refine gl_op (op_rd rfl (rd_extract rfl rfl) ?_)
  refine gl_op (op_rd rfl (rd_extract rfl rfl) ?_)
  refine gl_op (op_rd rfl (rd_assign rfl) ?_)
  refine gl_op (op_rd rfl (rd_assign rfl) ?_)
  refine gl_nil ?_
  refine gx_then ?_
  refine gc_seq ?_
  refine gc_seq ?_
  refine gc_region ?_
  refine gl_op (op_rd rfl (rd_move rfl) ?_)
  refine gl_op (op_rd rfl (rd_neq rfl rfl) (gk_dec (fun hse => ?_) (fun hse => ?_)))
  · skip
    refine gl_nil ?_
    refine gx_then ?_
    refine gc_cond_t rfl ?_
    refine gc_seq ?_
    refine gc_region ?_
    refine gl_op (op_call rfl (vf := []) (vc := []) rfl rfl Try.call12 (fun w ho => awake_ok w hF) ?_)
    rintro _ _ ⟨rfl, rfl⟩
    refine gl_op (op_rd rfl (rd_assign rfl) ?_)
    refine gl_nil ?_
    refine gx_then ?_
    refine gc_ret ?_
    refine gx_then_ret ?_
    refine gx_ret1 (.inl rfl) Try.results3 rfl [] (by decide) ?_
    exact ⟨rfl, rfl⟩
  · skip
    obtain ⟨hr, ns, hre, hk, hse2⟩ := settleR_zero (Decidable.byContradiction hse)
    rw [hse2]
    obtain ⟨hck, hs1, hs2, hi1, hi2⟩ := Circ.of_ready hr
    have hgd := Circ.good hck
    have hin0 := in_lt hgd hi2
    have hst0 := st_lt hgd hs2
    have hg12 := hgd.g12
    obtain ⟨sn, rfl⟩ : ∃ n : Nat, a0 = n := ⟨a0.toNat, by omega⟩
    obtain ⟨im, rfl⟩ : ∃ n : Nat, a1 = n := ⟨a1.toNat, by omega⟩
    simp only [Int.toNat_natCast] at hre hk hs2 hi2 hin0 hst0 ⊢
    obtain ⟨o1, o2, o3, o4⟩ := orders hgd hs2 hre hk picks
    refine gl_nil ?_
    refine gx_then ?_
    refine gc_cond_f rfl ?_
    refine gc_skip ?_
    refine gx_then ?_
    refine gc_seq ?_
    refine gc_seq ?_
    refine gc_region ?_
    refine gl_op (op_rd rfl (rd_loadAgg Try.underlying25 rfl ty_25 rfl (by first | exact cs_blk 0 (off := 0) (k := 3) rfl rfl | exact cs_blk 1 (off := 0) (k := 3) rfl rfl | exact cs_old (by assumption) (by simp)) rfl) ?_)
    refine gl_op (op_rd rfl (rd_indexArr Try.underlying26 ty_3 rfl rfl (by omega) (by omega)) ?_)
    refine gl_op (op_rd rfl (rd_load Try.underlying3 rfl rfl (by first | exact ld_blk 0 rfl rfl | exact ld_blk 1 rfl rfl | exact ld_slN (by assumption) (get_nats (by omega)) | exact ld_slN (by assumption) (get_ints (by omega)) | exact ld_old (by assumption) (by simp) | exact ld_cells (by assumption) (by simp) rfl)) ?_)
    refine gl_op (op_rd rfl (rd_indexArr Try.underlying26 ty_3 rfl rfl (by omega) (by omega)) ?_)
    refine gl_op (op_rd rfl (rd_load Try.underlying3 rfl rfl (by first | exact ld_blk 0 rfl rfl | exact ld_blk 1 rfl rfl | exact ld_slN (by assumption) (get_nats (by omega)) | exact ld_slN (by assumption) (get_ints (by omega)) | exact ld_old (by assumption) (by simp) | exact ld_cells (by assumption) (by simp) rfl)) ?_)
    refine gl_op (op_call rfl (vf := []) (vc := []) rfl rfl Try.call13 (fun w ho => sound_t c sn im w (hc.at ho) (by omega) (by omega) hr) ?_)
    rintro _ _ ⟨rfl, rfl⟩
    refine gl_op (op_rd rfl (rd_not rfl) ?_)
    refine gl_nil ?_
    refine gx_then ?_
    refine gc_cond_f rfl ?_
    refine gc_skip ?_
    refine gx_then ?_
    refine gc_seq ?_
    refine gc_region ?_
    refine gl_op (op_rd rfl (rd_loadAgg Try.underlying25 rfl ty_25 rfl (by first | exact cs_blk 0 (off := 0) (k := 3) rfl rfl | exact cs_blk 1 (off := 0) (k := 3) rfl rfl | exact cs_old (by assumption) (by simp)) rfl) ?_)
    refine gl_op (op_rd rfl (rd_indexArr Try.underlying26 ty_3 rfl rfl (by omega) (by omega)) ?_)
    refine gl_op (op_rd rfl (rd_load Try.underlying3 rfl rfl (by first | exact ld_blk 0 rfl rfl | exact ld_blk 1 rfl rfl | exact ld_slN (by assumption) (get_nats (by omega)) | exact ld_slN (by assumption) (get_ints (by omega)) | exact ld_old (by assumption) (by simp) | exact ld_cells (by assumption) (by simp) rfl)) ?_)
    refine gl_op (op_rd rfl (rd_indexArr Try.underlying26 ty_3 rfl rfl (by omega) (by omega)) ?_)
    refine gl_op (op_rd rfl (rd_load Try.underlying3 rfl rfl (by first | exact ld_blk 0 rfl rfl | exact ld_blk 1 rfl rfl | exact ld_slN (by assumption) (get_nats (by omega)) | exact ld_slN (by assumption) (get_ints (by omega)) | exact ld_old (by assumption) (by simp) | exact ld_cells (by assumption) (by simp) rfl)) ?_)
    refine gl_op (op_call rfl (vf := []) (vc := []) rfl rfl Try.call14 (fun w ho => GlitchesN_ok c sn im ns w (hc.at ho) hst0 hin0 (hF c) hr hre hk) ?_)
    rintro _ _ ⟨gl, rg, cg, hgl, rfl, rfl⟩
    rw [hgl] at o4
    refine gl_op (op_rd rfl (rd_move rfl) ?_)
    refine gl_op (op_rd rfl (rd_extract rfl rfl) ?_)
    refine gl_op (op_rd rfl (rd_extract rfl rfl) ?_)
    refine gl_op (op_rd rfl (rd_assign rfl) ?_)
    refine gl_op (op_rd rfl (rd_assign rfl) ?_)
    refine gl_nil ?_
    refine gx_then ?_
    refine gc_seq ?_
    refine gc_region ?_
    refine gl_op (op_rd rfl (rd_loadAgg Try.underlying25 rfl ty_25 rfl (by first | exact cs_blk 1 (off := 0) (k := 3) rfl rfl | exact cs_blk 2 (off := 0) (k := 3) rfl rfl | exact cs_old (by assumption) (by simp)) rfl) ?_)
    refine gl_op (op_rd rfl (rd_indexArr Try.underlying26 ty_3 rfl rfl (by omega) (by omega)) ?_)
    refine gl_op (op_rd rfl (rd_load Try.underlying3 rfl rfl (by first | exact ld_blk 1 rfl rfl | exact ld_blk 2 rfl rfl | exact ld_rowN 0 rfl (get_nats (by omega)) | exact ld_slN (by assumption) (get_nats (by omega)) | exact ld_rowN 0 rfl (get_ints (by omega)) | exact ld_slN (by assumption) (get_ints (by omega)) | exact ld_old (by assumption) (by simp) | exact ld_cells (by assumption) (by simp) rfl)) ?_)
    refine gl_op (op_rd rfl (rd_indexArr Try.underlying26 ty_3 rfl rfl (by omega) (by omega)) ?_)
    refine gl_op (op_rd rfl (rd_load Try.underlying3 rfl rfl (by first | exact ld_blk 1 rfl rfl | exact ld_blk 2 rfl rfl | exact ld_rowN 0 rfl (get_nats (by omega)) | exact ld_slN (by assumption) (get_nats (by omega)) | exact ld_rowN 0 rfl (get_ints (by omega)) | exact ld_slN (by assumption) (get_ints (by omega)) | exact ld_old (by assumption) (by simp) | exact ld_cells (by assumption) (by simp) rfl)) ?_)
    refine gl_op (op_rd rfl (rd_move rfl) ?_)
    refine gl_op (op_call rfl (vf := []) (vc := []) rfl rfl Try.call15 (fun w ho => played_ok c sn im picks pa pcp 999 w (hc.at ho) hgd hck hs2 hi2 (hpk.at ho) hpl hp8 (by decide)) ?_)
    rintro _ _ ⟨rt, ct, rfl, rfl⟩
    rw [show (playGo c im picks (999 + 1) 0 sn (List.replicate c.gates.length 0)).1 = _ from o1, show (playGo c im picks (999 + 1) 0 sn (List.replicate c.gates.length 0)).2.2 = _ from o2]
    obtain ⟨ts, hts⟩ : ∃ ts, (playGo c im picks (999 + 1) 0 sn (List.replicate c.gates.length 0)).2.1 = ts := ⟨_, rfl⟩
    rw [show (playGo c im picks 1000 0 sn (List.replicate c.gates.length 0)).2.1 = _ from hts] at o3 o4
    rw [hts]
    refine gl_op (op_rd rfl (rd_move rfl) ?_)
    refine gl_op (op_rd rfl (rd_extract rfl rfl) ?_)
    refine gl_op (op_rd rfl (rd_extract rfl rfl) ?_)
    refine gl_op (op_rd rfl (rd_extract rfl rfl) ?_)
    refine gl_op (op_rd rfl (rd_assign rfl) ?_)
    refine gl_op (op_rd rfl (rd_assign rfl) ?_)
    refine gl_op (op_rd rfl (rd_assign rfl) ?_)
    refine gl_nil ?_
    refine gx_then ?_
    refine gc_seq ?_
    refine gc_seq ?_
    refine gc_region ?_
    refine gl_op (op_rd rfl (rd_move rfl) ?_)
    refine gl_op (op_rd rfl (rd_neq rfl rfl) (gk_dec (fun h55 => ?_) (fun h55 => ?_)))
    · skip
      exact absurd rfl h55
    · skip
      refine gl_op (op_rd rfl (rd_move rfl) ?_)
      refine gl_yes rfl rfl (op_rd rfl (rd_move rfl) ?_)
      refine gl_yes rfl rfl (op_rd rfl (rd_not rfl) ?_)
      refine gl_op (op_rd rfl (rd_pick_f rfl rfl) ?_)
      refine gl_op (op_rd rfl (rd_move rfl) ?_)
      refine gl_yes rfl rfl (op_rd rfl (rd_move rfl) ?_)
      refine gl_yes rfl rfl (op_rd rfl (rd_move rfl) ?_)
      refine gl_yes rfl rfl (op_rd rfl (rd_neq rfl rfl) (gk_dec (fun h63 => ?_) (fun h63 => ?_)))
      · skip
        exact absurd rfl h63
      · skip
        refine gl_op (op_rd rfl (rd_pick_f rfl rfl) ?_)
        refine gl_nil ?_
        refine gx_then ?_
        refine gc_cond_f rfl ?_
        refine gc_skip ?_
        refine gx_then ?_
        refine gc_seq ?_
        refine gc_seq ?_
        refine gc_region ?_
        refine gl_op (op_rd rfl (rd_assign rfl) ?_)
        refine gl_nil ?_
        refine gx_then ?_
        refine gc_block ?_
        refine gc_loopF (ι := Nat) [(9, _), (12, _)] [_, _, _, _] (fun j => j ≤ ts.length) (fun j Fr0 => ((14, natV j) :: Fr0)) (fun j Fr0 => Fr0) (fun j => ts.length - j) 0 (Nat.zero_le _) ⟨rfl, rfl, rfl, trivial⟩ ⟨[0, 1, 2, 3], by decide, rfl⟩ ?_
        rintro k hk2
        refine gc_seq ?_
        refine gc_seq ?_
        refine gc_region ?_
        refine gl_op (op_rd rfl (rd_move rfl) ?_)
        refine gl_op (op_rd rfl (rd_move rfl) ?_)
        refine gl_op (op_rd rfl (rd_lenSlice Try.underlying23 rfl) ?_)
        refine gl_op (op_rd rfl (rd_lss rfl rfl) (gk_dec (fun hlt => ?_) (fun hlt => ?_)))
        · skip
          refine gl_nil ?_
          refine gx_then ?_
          refine gc_cond_t rfl ?_
          refine gc_skip ?_
          refine gx_then ?_
          refine gc_seq ?_
          refine gc_block ?_
          refine gc_seq ?_
          refine gc_region ?_
          refine gl_op (op_rd rfl (rd_move rfl) ?_)
          refine gl_op (op_rd rfl (rd_move rfl) ?_)
          refine gl_op (op_rd rfl (rd_indexRow1 0 rfl Try.underlying23 ty_3 rfl rfl (by omega) (by omega)) ?_)
          refine gl_op (op_rd rfl (rd_load Try.underlying3 rfl rfl (ld_rowN 0 rfl (get_nats (by omega)))) ?_)
          refine gl_op (op_rd rfl (rd_gtr rfl rfl) (gk_dec (fun hgt => ?_) (fun hgt => ?_)))
          · skip
            refine gl_op (op_rd rfl (rd_move rfl) ?_)
            refine gl_yes rfl rfl (op_rd rfl (rd_move rfl) ?_)
            refine gl_yes rfl rfl (op_rd rfl (rd_move rfl) ?_)
            have hkg : k ∈ gl := o4 k (by omega)
            have hgll : gl.length ≤ 12 := by rw [← hgl]; exact Nat.le_trans (filter_range_le _ _) hg12
            refine gl_yes rfl rfl (op_call rfl (vf := []) (vc := []) rfl rfl Try.call16 (fun w ho => has_nats_t gl (rowA rg) cg k w (ho.rowSl 1 rfl) (by omega) hkg) ?_)
            rintro _ _ ⟨rfl, rfl⟩
            refine gl_yes rfl rfl (op_rd rfl (rd_not rfl) ?_)
            refine gl_op (op_rd rfl (rd_pick_t rfl rfl) ?_)
            refine gl_nil ?_
            refine gx_then ?_
            refine gc_cond_f rfl ?_
            refine gc_skip ?_
            refine gx_block ?_
            refine gx_then ?_
            refine gc_region ?_
            refine gl_op (op_rd rfl (rd_move rfl) ?_)
            refine gl_op (op_rd rfl (by first | exact rd_addN (b := 1) rfl rfl (by omega) | exact rd_add rfl rfl (by omega) (by omega)) ?_)
            refine gl_op (op_rd rfl (rd_assign rfl) ?_)
            refine gl_nil ?_
            refine gx_then ?_
            exact gx_cut (k + 1) ⟨(by omega), by omega⟩ ⟨rfl, rfl, rfl, trivial⟩ ⟨[0, 1, 2, 3], by decide, rfl⟩
          · skip
            refine gl_op (op_rd rfl (rd_move rfl) ?_)
            refine gl_no rfl rfl rfl ?_
            refine gl_no rfl rfl rfl ?_
            refine gl_no rfl rfl rfl ?_
            refine gl_no rfl rfl rfl ?_
            refine gl_op (op_rd rfl (rd_pick_f rfl rfl) ?_)
            refine gl_nil ?_
            refine gx_then ?_
            refine gc_cond_f rfl ?_
            refine gc_skip ?_
            refine gx_block ?_
            refine gx_then ?_
            refine gc_region ?_
            refine gl_op (op_rd rfl (rd_move rfl) ?_)
            refine gl_op (op_rd rfl (by first | exact rd_addN (b := 1) rfl rfl (by omega) | exact rd_add rfl rfl (by omega) (by omega)) ?_)
            refine gl_op (op_rd rfl (rd_assign rfl) ?_)
            refine gl_nil ?_
            refine gx_then ?_
            exact gx_cut (k + 1) ⟨(by omega), by omega⟩ ⟨rfl, rfl, rfl, trivial⟩ ⟨[0, 1, 2, 3], by decide, rfl⟩
        · skip
          refine gl_nil ?_
          refine gx_then ?_
          refine gc_cond_f rfl ?_
          refine gc_exit ?_
          refine gx_then_exit ?_
          refine gx_then_exit ?_
          refine gx_block_exit ?_
          refine gx_then ?_
          refine gc_seq ?_
          refine gc_region ?_
          refine gl_op (op_call rfl (vf := []) (vc := []) rfl rfl Try.call12 (fun w ho => awake_ok w hF) ?_)
          rintro _ _ ⟨rfl, rfl⟩
          refine gl_op (op_rd rfl (rd_assign rfl) ?_)
          refine gl_nil ?_
          refine gx_then ?_
          refine gc_ret ?_
          refine gx_ret1 (.inl rfl) Try.results3 rfl [] (by decide) ?_
          exact ⟨rfl, rfl⟩

end Go.Proofs.Yteocjpnckciboaa

set_option autoImplicit false
set_option linter.unusedVariables false
namespace Go.Proofs.Yteocjpnckciboaa
open Go.Gv
open Go.RowKit
open Ry
theorem goes_t_ok (c : Circ) (s0 inn : Nat) (ks0 : List Nat) (x : Nat) (a : Option Addr) (cp : Nat) (w0 : World) (hc : c.In w0 []) (hgd : c.Good) (hck : c.check = 0) (hst0 : s0 < 2 ^ c.gates.length) (hin : inn < 2 ^ c.inputs.toNat) (hsl : OldSl w0 [] a ks0.length 1 (ks0.map natV)) (hlen : ks0.length ≤ 140737488355328) (hx : goesGo c inn ks0 s0 = some x) : Sp Try.prog 18 [c.val, natV s0, natV inn, .slice a ks0.length cp] w0 [] (RV (.tuple #[natV x, .bool true])) := by
  have h := goes_ok c s0 inn ks0 a cp w0 hc hgd hck hst0 hin hsl hlen
  rw [hx] at h
  exact h
theorem NextE_ok (c : Circ) (st inn : Nat) (w0 : World) (hc : c.In w0 []) (hst : st < 4096) (hin : inn < 256) (hr : c.ready st inn = 0) (hn : nextL c st inn = []) : Sp Try.prog 19 [c.val, natV st, natV inn] w0 [] (fun v l => ∃ r cp, v = .tuple #[.slice (rowA r) 0 cp, .int .i64 0] ∧ l = [.row 3 1 r 0 cp []]) :=
  Sp.mono (Next_ok c st inn w0 hc (by omega) (by omega)) fun v l h => by
    rcases h with ⟨_, r, cp, h1, h2⟩ | ⟨h1, _⟩
    · simp only [Int.toNat_natCast, hn] at h1 h2
      exact ⟨r, cp, h1, h2⟩
    · exact absurd hr h1
theorem Ry.Wit.k0 {c : Circ} {inn st : Nat} {rc : Rc} (h : Wit c inn st rc) (hk : rc.kind = 0) : rc.a = [] ∧ rc.b = [] := by
  cases h with
  | none => exact ⟨rfl, rfl⟩
  | two => cases hk
  | loop => cases hk
theorem Ry.Wit.k12 {c : Circ} {inn st : Nat} {rc : Rc} (h : Wit c inn st rc) (hk : ¬ rc.kind = 0) : ∃ x, goesGo c inn rc.a st = some x ∧ x < 2 ^ c.gates.length ∧ (rc.kind = 2 → goesGo c inn rc.b x = some x ∧ rc.b ≠ []) ∧ (¬ rc.kind = 2 → rc.kind = 1 ∧ ∃ y, goesGo c inn rc.b st = some y ∧ x ≠ y ∧ nextL c x inn = [] ∧ nextL c y inn = [] ∧ y < 2 ^ c.gates.length) := by
  cases h with
  | none => exact absurd rfl hk
  | two a b x y h1 h2 h3 h4 h5 h6 h7 => exact ⟨x, h1, h6, fun h => (by cases h), fun _ => ⟨rfl, y, h2, h3, h4, h5, h7⟩⟩
  | loop a b x h1 h2 h3 h4 => exact ⟨x, h1, h4, fun _ => ⟨h2, h3⟩, fun h => absurd rfl h⟩
theorem wayP_len' {c : Circ} {inn : Nat} {ns : List Nd} (hg : Gr c inn ns) (i : Nat) (h : i < ns.length) : (wayP ns i).length ≤ 1000 := by
  have := wayP_len hg.wf i
  have := hg.len
  omega
theorem backAt_len {c : Circ} {inn s : Nat} {ms : List Nd} (hw : Wf ms) : ∀ (l : List Nd) (i : Nat), (backAt c inn s ms i l).length ≤ i + l.length + 1
  | [], i => by simp [backAt]
  | y :: l, i => by
    cases hf : (nextL c y.state inn).find? (fun k => flip y.state k == s) with
    | some q => rw [backAt_hit hf, List.length_append]; have := wayP_len hw i; simp; omega
    | none => rw [backAt_skip hf]; have := backAt_len (c := c) (inn := inn) (s := s) hw l (i + 1); simp; omega
theorem race_len {c : Circ} {inn : Nat} {ns : List Nd} (hg : Gr c inn ns) : (raceP c inn ns).a.length ≤ 2000 ∧ (raceP c inn ns).b.length ≤ 2000 := by
  by_cases h1 : 1 < (rests c inn ns).length
  · rw [raceP_two h1]
    have l0 := wayP_len' hg _ (rests_lt (show 0 < (rests c inn ns).length by omega))
    have l1 := wayP_len' hg _ (rests_lt h1)
    simp only; omega
  · cases he : endsP c inn ns with
    | true => rw [raceP_ends h1 he]; simp
    | false =>
      rw [raceP_loop h1 he]
      by_cases hk : (loopFrom c inn ns 0 ns).kind = 0
      · rw [loopFrom_nil ns 0 hk]; simp
      · obtain ⟨j, x, hx, hb, e⟩ := loopFrom_cons ns 0 hk
        rw [e]
        obtain ⟨ms, h2, h3, _, h5⟩ := hg.back x (List.mem_of_getElem? hx)
        have l0 := wayP_len' hg j (List.getElem?_eq_some_iff.1 hx).1
        have l1 := backAt_len (c := c) (inn := inn) (s := x.state) h3 ms 0
        have : backP c inn x.state = backAt c inn x.state ms 0 ms := by unfold backP; rw [h2]
        simp only [this, Nat.zero_add] at l0 l1 ⊢
        omega

set_option maxRecDepth 100000 in
set_option maxHeartbeats 1000000 in
theorem RelaysWitness_ok (c : Circ) (a0 a1 : Int) (w0 : World) (hc : c.In w0 []) (hst : a0 ≤ 9223372036854775807) (hin : a1 ≤ 9223372036854775807) (hF : ∀ (c : Circ) (im : Nat), im < 2 ^ c.inputs.toNat → c.Good → Facts c im) : Sp Try.prog 4 [c.val, .int .i64 a0, .int .i64 a1] w0 [] (RV (.bool true)) := by
  refine spec_enter Try.func4 rfl Try.ntmps4 rfl (Own.refl _) ?_
  simp only [argEnv]
  refine gc_seq ?_
  refine gc_region ?_
  refine gl_op (op_box rfl rfl rfl (fun b3 => ?_))
  refine gl_op (op_rd rfl (rd_assign rfl) ?_)
  refine gl_nil ?_
  refine gx_then ?_
  refine gc_seq ?_
  refine gc_region ?_
  refine gl_op (op_rd rfl (rd_loadAgg Try.underlying25 rfl ty_25 rfl (by first | exact cs_blk 0 (off := 0) (k := 3) rfl rfl | exact cs_old (by assumption) (by simp)) rfl) ?_)
  refine gl_op (op_rd rfl (rd_move rfl) ?_)
  refine gl_op (op_rd rfl (rd_move rfl) ?_)
  refine gl_op (op_call rfl (vf := []) (vc := []) rfl rfl Try.call17 (fun w ho => Race_ok c a0 a1 w (hc.at ho) hst hin (hF c)) ?_)
  rintro _ _ ⟨ra, ca, rb, cb, rfl, rfl⟩
  refine gl_op (op_rd rfl (rd_move rfl) ?_)
  refine gl_op (op_rd rfl (rd_extract rfl rfl) ?_)
  refine gl_op (op_rd rfl (rd_extract rfl rfl) ?_)
  refine gl_op (op_alloc ty_40 rfl rfl (fun b7 => ?_))
  first | refine gl_op (op_storeAgg 0 ty_40 rfl rfl rfl rfl rfl rfl (by first | rfl | (simp only [List.set_cons_succ, List.set_cons_zero]; exact rfl)) ?_) | refine gl_op (op_storeAgg 3 ty_40 rfl rfl rfl rfl rfl rfl (by first | rfl | (simp only [List.set_cons_succ, List.set_cons_zero]; exact rfl)) ?_)
  refine gl_op (op_rd rfl (rd_assign rfl) ?_)
  refine gl_nil ?_
  refine gx_then ?_
  refine gc_seq ?_
  refine gc_seq ?_
  refine gc_region ?_
  refine gl_op (op_rd rfl (rd_move rfl) ?_)
  refine gl_op (op_rd rfl (rd_neq rfl rfl) (gk_dec (fun hse => ?_) (fun hse => ?_)))
  · skip
    refine gl_op (op_rd rfl (rd_move rfl) ?_)
    refine gl_no rfl rfl rfl ?_
    refine gl_no rfl rfl rfl ?_
    refine gl_no rfl rfl rfl ?_
    refine gl_no rfl rfl rfl ?_
    refine gl_no rfl rfl rfl ?_
    refine gl_op (op_rd rfl (rd_pick_t rfl rfl) ?_)
    refine gl_nil ?_
    refine gx_then ?_
    refine gc_cond_t rfl ?_
    refine gc_seq ?_
    refine gc_region ?_
    refine gl_op (op_rd rfl (rd_move rfl) ?_)
    refine gl_op (op_rd rfl (rd_neq rfl rfl) (gk_dec (fun h36 => ?_) (fun h36 => ?_)))
    · skip
      refine gl_op (op_rd rfl (rd_move rfl) ?_)
      refine gl_yes rfl rfl (op_call rfl (vf := []) (vc := []) rfl rfl Try.call12 (fun w ho => awake_ok w hF) ?_)
      rintro _ _ ⟨rfl, rfl⟩
      refine gl_op (op_rd rfl (rd_pick_t rfl rfl) ?_)
      refine gl_op (op_rd rfl (rd_assign rfl) ?_)
      refine gl_nil ?_
      refine gx_then ?_
      refine gc_ret ?_
      refine gx_then_ret ?_
      refine gx_ret1 (.inl rfl) Try.results4 rfl [] (by decide) ?_
      exact ⟨rfl, rfl⟩
    · skip
      exact absurd hse h36
  · skip
    obtain ⟨hr, ns, hre, hse2⟩ := raceR_zero (Decidable.byContradiction hse)
    simp only [hse2]
    obtain ⟨hck, hs1, hs2, hi1, hi2⟩ := Circ.of_ready hr
    have hgd := Circ.good hck
    have hin0 := in_lt hgd hi2
    have hst0 := st_lt hgd hs2
    obtain ⟨sn, rfl⟩ : ∃ n : Nat, a0 = n := ⟨a0.toNat, by omega⟩
    obtain ⟨im, rfl⟩ : ∃ n : Nat, a1 = n := ⟨a1.toNat, by omega⟩
    simp only [Int.toNat_natCast] at hre hs2 hi2 hin0 hst0 ⊢
    have hW := witness hgd hs2 hre
    obtain ⟨hla, hlb⟩ := race_len ((hF c im hi2 hgd).gr sn ns hs2 hre)
    obtain ⟨rc, hrc⟩ : ∃ r, raceP c im ns = r := ⟨_, rfl⟩
    rw [hrc] at hW hla hlb
    simp only [hrc]
    refine gl_op (op_rd rfl (rd_move rfl) ?_)
    refine gl_yes rfl rfl (op_rd rfl (rd_loadAgg Try.underlying25 rfl ty_25 rfl (by first | exact cs_blk 0 (off := 0) (k := 3) rfl rfl | exact cs_blk 3 (off := 0) (k := 3) rfl rfl | exact cs_old (by assumption) (by simp)) rfl) ?_)
    refine gl_yes rfl rfl (op_rd rfl (rd_move rfl) ?_)
    refine gl_yes rfl rfl (op_rd rfl (rd_move rfl) ?_)
    refine gl_yes rfl rfl (op_call rfl (vf := []) (vc := []) rfl rfl Try.call13 (fun w ho => sound_t c sn im w (hc.at ho) (by omega) (by omega) hr) ?_)
    rintro _ _ ⟨rfl, rfl⟩
    refine gl_yes rfl rfl (op_rd rfl (rd_not rfl) ?_)
    refine gl_op (op_rd rfl (rd_pick_f rfl rfl) ?_)
    refine gl_nil ?_
    refine gx_then ?_
    refine gc_cond_f rfl ?_
    refine gc_skip ?_
    refine gx_then ?_
    refine gc_seq ?_
    refine gc_seq ?_
    refine gc_region ?_
    refine gl_op (op_rd rfl (rd_fieldAddr rfl (fa_40_0 _)) ?_)
    refine gl_op (op_rd rfl (rd_load Try.underlying3 rfl rfl (by first | exact ld_blk 0 rfl rfl | exact ld_blk 3 rfl rfl | exact ld_rowN 1 rfl (get_nats (by omega)) | exact ld_rowN 2 rfl (get_nats (by omega)) | exact ld_slN (by assumption) (get_nats (by omega)) | exact ld_rowN 1 rfl (get_ints (by omega)) | exact ld_rowN 2 rfl (get_ints (by omega)) | exact ld_slN (by assumption) (get_ints (by omega)) | exact ld_old (by assumption) (by simp) | exact ld_cells (by assumption) (by simp) rfl)) ?_)
    refine gl_op (op_rd rfl (rd_eql rfl rfl) (gk_dec (fun hk0 => ?_) (fun hk0 => ?_)))
    · skip
      obtain ⟨ha, hb⟩ := Wit.k0 hW (by omega)
      refine gl_nil ?_
      refine gx_then ?_
      refine gc_cond_t rfl ?_
      refine gc_seq ?_
      refine gc_region ?_
      refine gl_op (op_rd rfl (rd_fieldAddr rfl (fa_40_1 _)) ?_)
      refine gl_op (op_rd rfl (rd_load Try.underlying23 rfl rfl (by first | exact ld_blk 0 rfl rfl | exact ld_blk 3 rfl rfl | exact ld_old (by assumption) (by simp) | exact ld_cells (by assumption) (by simp) rfl)) ?_)
      refine gl_op (op_rd rfl (rd_lenSlice Try.underlying23 rfl) ?_)
      refine gl_op (op_rd rfl (rd_fieldAddr rfl (fa_40_2 _)) ?_)
      refine gl_op (op_rd rfl (rd_load Try.underlying23 rfl rfl (by first | exact ld_blk 0 rfl rfl | exact ld_blk 3 rfl rfl | exact ld_old (by assumption) (by simp) | exact ld_cells (by assumption) (by simp) rfl)) ?_)
      refine gl_op (op_rd rfl (rd_lenSlice Try.underlying23 rfl) ?_)
      refine gl_op (op_rd rfl (by first | exact rd_addN rfl rfl (by omega) | exact rd_add rfl rfl (by omega) (by omega)) ?_)
      refine gl_op (op_rd rfl (rd_eql rfl rfl) (gk_dec (fun h50 => ?_) (fun h50 => ?_)))
      · skip
        refine gl_op (op_rd rfl (rd_move rfl) ?_)
        refine gl_yes rfl rfl (op_call rfl (vf := []) (vc := []) rfl rfl Try.call12 (fun w ho => awake_ok w hF) ?_)
        rintro _ _ ⟨rfl, rfl⟩
        refine gl_op (op_rd rfl (rd_pick_t rfl rfl) ?_)
        refine gl_op (op_rd rfl (rd_assign rfl) ?_)
        refine gl_nil ?_
        refine gx_then ?_
        refine gc_ret ?_
        refine gx_then_ret ?_
        refine gx_ret1 (.inl rfl) Try.results4 rfl [] (by decide) ?_
        exact ⟨rfl, rfl⟩
      · skip
        exact absurd (by rw [ha, hb]; rfl) h50
    · skip
      obtain ⟨x, hx, hxl, hK2, hK1⟩ := Wit.k12 hW (by omega)
      have hxl2 := st_lt hgd hxl
      refine gl_nil ?_
      refine gx_then ?_
      refine gc_cond_f rfl ?_
      refine gc_skip ?_
      refine gx_then ?_
      refine gc_seq ?_
      refine gc_region ?_
      refine gl_op (op_rd rfl (rd_loadAgg Try.underlying25 rfl ty_25 rfl (by first | exact cs_blk 0 (off := 0) (k := 3) rfl rfl | exact cs_blk 3 (off := 0) (k := 3) rfl rfl | exact cs_old (by assumption) (by simp)) rfl) ?_)
      refine gl_op (op_rd rfl (rd_move rfl) ?_)
      refine gl_op (op_rd rfl (rd_move rfl) ?_)
      refine gl_op (op_rd rfl (rd_fieldAddr rfl (fa_40_1 _)) ?_)
      refine gl_op (op_rd rfl (rd_load Try.underlying23 rfl rfl (by first | exact ld_blk 0 rfl rfl | exact ld_blk 3 rfl rfl | exact ld_old (by assumption) (by simp) | exact ld_cells (by assumption) (by simp) rfl)) ?_)
      refine gl_op (op_call rfl (vf := []) (vc := []) rfl rfl Try.call18 (fun w ho => goes_t_ok c sn im rc.a x _ _ w (hc.at ho) hgd hck hs2 hi2 (ho.rowSl 1 rfl) (by omega) hx) ?_)
      rintro _ _ ⟨rfl, rfl⟩
      refine gl_op (op_rd rfl (rd_move rfl) ?_)
      refine gl_op (op_rd rfl (rd_extract rfl rfl) ?_)
      refine gl_op (op_rd rfl (rd_extract rfl rfl) ?_)
      refine gl_op (op_rd rfl (rd_assign rfl) ?_)
      refine gl_op (op_rd rfl (rd_assign rfl) ?_)
      refine gl_nil ?_
      refine gx_then ?_
      refine gc_seq ?_
      refine gc_seq ?_
      refine gc_region ?_
      refine gl_op (op_rd rfl (rd_move rfl) ?_)
      refine gl_op (op_rd rfl (rd_not rfl) ?_)
      refine gl_nil ?_
      refine gx_then ?_
      refine gc_cond_f rfl ?_
      refine gc_skip ?_
      refine gx_then ?_
      refine gc_seq ?_
      refine gc_seq ?_
      refine gc_region ?_
      refine gl_op (op_rd rfl (rd_fieldAddr rfl (fa_40_0 _)) ?_)
      refine gl_op (op_rd rfl (rd_load Try.underlying3 rfl rfl (by first | exact ld_blk 0 rfl rfl | exact ld_blk 3 rfl rfl | exact ld_rowN 1 rfl (get_nats (by omega)) | exact ld_rowN 2 rfl (get_nats (by omega)) | exact ld_slN (by assumption) (get_nats (by omega)) | exact ld_rowN 1 rfl (get_ints (by omega)) | exact ld_rowN 2 rfl (get_ints (by omega)) | exact ld_slN (by assumption) (get_ints (by omega)) | exact ld_old (by assumption) (by simp) | exact ld_cells (by assumption) (by simp) rfl)) ?_)
      refine gl_op (op_rd rfl (rd_eql rfl rfl) (gk_dec (fun hk2 => ?_) (fun hk2 => ?_)))
      · skip
        obtain ⟨hb, hbn⟩ := hK2 (by omega)
        have hbl := List.length_pos_iff.2 hbn
        refine gl_nil ?_
        refine gx_then ?_
        refine gc_cond_t rfl ?_
        refine gc_seq ?_
        refine gc_region ?_
        refine gl_op (op_rd rfl (rd_loadAgg Try.underlying25 rfl ty_25 rfl (by first | exact cs_blk 0 (off := 0) (k := 3) rfl rfl | exact cs_blk 3 (off := 0) (k := 3) rfl rfl | exact cs_old (by assumption) (by simp)) rfl) ?_)
        refine gl_op (op_rd rfl (rd_move rfl) ?_)
        refine gl_op (op_rd rfl (rd_move rfl) ?_)
        refine gl_op (op_rd rfl (rd_fieldAddr rfl (fa_40_2 _)) ?_)
        refine gl_op (op_rd rfl (rd_load Try.underlying23 rfl rfl (by first | exact ld_blk 0 rfl rfl | exact ld_blk 3 rfl rfl | exact ld_old (by assumption) (by simp) | exact ld_cells (by assumption) (by simp) rfl)) ?_)
        refine gl_op (op_call rfl (vf := []) (vc := []) rfl rfl Try.call18 (fun w ho => goes_t_ok c x im rc.b x _ _ w (hc.at ho) hgd hck hxl hi2 (ho.rowSl 2 rfl) (by omega) hb) ?_)
        rintro _ _ ⟨rfl, rfl⟩
        refine gl_op (op_rd rfl (rd_move rfl) ?_)
        refine gl_op (op_rd rfl (rd_extract rfl rfl) ?_)
        refine gl_op (op_rd rfl (rd_extract rfl rfl) ?_)
        refine gl_op (op_rd rfl (rd_assign rfl) ?_)
        refine gl_op (op_rd rfl (rd_assign rfl) ?_)
        refine gl_nil ?_
        refine gx_then ?_
        refine gc_seq ?_
        refine gc_region ?_
        refine gl_op (op_rd rfl (rd_move rfl) ?_)
        refine gl_op (op_rd rfl (rd_move rfl) ?_)
        refine gl_yes rfl rfl (op_rd rfl (rd_move rfl) ?_)
        refine gl_yes rfl rfl (op_rd rfl (rd_move rfl) ?_)
        refine gl_yes rfl rfl (op_rd rfl (rd_eql rfl rfl) (gk_dec (fun h81 => ?_) (fun h81 => ?_)))
        · skip
          refine gl_op (op_rd rfl (rd_pick_t rfl rfl) ?_)
          refine gl_op (op_rd rfl (rd_move rfl) ?_)
          refine gl_yes rfl rfl (op_rd rfl (rd_fieldAddr rfl (fa_40_2 _)) ?_)
          refine gl_yes rfl rfl (op_rd rfl (rd_load Try.underlying23 rfl rfl (by first | exact ld_blk 0 rfl rfl | exact ld_blk 3 rfl rfl | exact ld_old (by assumption) (by simp) | exact ld_cells (by assumption) (by simp) rfl)) ?_)
          refine gl_yes rfl rfl (op_rd rfl (rd_lenSlice Try.underlying23 rfl) ?_)
          refine gl_yes rfl rfl (op_rd rfl (rd_gtr rfl rfl) (gk_dec (fun h87 => ?_) (fun h87 => ?_)))
          · skip
            refine gl_op (op_rd rfl (rd_pick_t rfl rfl) ?_)
            refine gl_op (op_rd rfl (rd_move rfl) ?_)
            refine gl_yes rfl rfl (op_call rfl (vf := []) (vc := []) rfl rfl Try.call12 (fun w ho => awake_ok w hF) ?_)
            rintro _ _ ⟨rfl, rfl⟩
            refine gl_op (op_rd rfl (rd_pick_t rfl rfl) ?_)
            refine gl_op (op_rd rfl (rd_assign rfl) ?_)
            refine gl_nil ?_
            refine gx_then ?_
            refine gc_ret ?_
            refine gx_then_ret ?_
            refine gx_ret1 (.inl rfl) Try.results4 rfl [] (by decide) ?_
            exact ⟨rfl, rfl⟩
          · skip
            exact absurd (by omega) h87
        · skip
          exact absurd rfl h81
      · skip
        obtain ⟨hk1, y, hy, hxy, hnx, hny, hyl⟩ := hK1 (by omega)
        have hyl2 := st_lt hgd hyl
        refine gl_nil ?_
        refine gx_then ?_
        refine gc_cond_f rfl ?_
        refine gc_skip ?_
        refine gx_then ?_
        refine gc_seq ?_
        refine gc_region ?_
        refine gl_op (op_rd rfl (rd_loadAgg Try.underlying25 rfl ty_25 rfl (by first | exact cs_blk 0 (off := 0) (k := 3) rfl rfl | exact cs_blk 3 (off := 0) (k := 3) rfl rfl | exact cs_old (by assumption) (by simp)) rfl) ?_)
        refine gl_op (op_rd rfl (rd_move rfl) ?_)
        refine gl_op (op_rd rfl (rd_move rfl) ?_)
        refine gl_op (op_rd rfl (rd_fieldAddr rfl (fa_40_2 _)) ?_)
        refine gl_op (op_rd rfl (rd_load Try.underlying23 rfl rfl (by first | exact ld_blk 0 rfl rfl | exact ld_blk 3 rfl rfl | exact ld_old (by assumption) (by simp) | exact ld_cells (by assumption) (by simp) rfl)) ?_)
        refine gl_op (op_call rfl (vf := []) (vc := []) rfl rfl Try.call18 (fun w ho => goes_t_ok c sn im rc.b y _ _ w (hc.at ho) hgd hck hs2 hi2 (ho.rowSl 2 rfl) (by omega) hy) ?_)
        rintro _ _ ⟨rfl, rfl⟩
        refine gl_op (op_rd rfl (rd_move rfl) ?_)
        refine gl_op (op_rd rfl (rd_extract rfl rfl) ?_)
        refine gl_op (op_rd rfl (rd_extract rfl rfl) ?_)
        refine gl_op (op_rd rfl (rd_assign rfl) ?_)
        refine gl_op (op_rd rfl (rd_assign rfl) ?_)
        refine gl_nil ?_
        refine gx_then ?_
        refine gc_seq ?_
        refine gc_region ?_
        refine gl_op (op_rd rfl (rd_loadAgg Try.underlying25 rfl ty_25 rfl (by first | exact cs_blk 0 (off := 0) (k := 3) rfl rfl | exact cs_blk 3 (off := 0) (k := 3) rfl rfl | exact cs_old (by assumption) (by simp)) rfl) ?_)
        refine gl_op (op_rd rfl (rd_move rfl) ?_)
        refine gl_op (op_rd rfl (rd_move rfl) ?_)
        refine gl_op (op_call rfl (vf := []) (vc := []) rfl rfl Try.call19 (fun w ho => NextE_ok c x im w (hc.at ho) hxl2 hin0 (ready_nat hck hxl hi2) hnx) ?_)
        rintro _ _ ⟨r5, c5, rfl, rfl⟩
        refine gl_op (op_rd rfl (rd_move rfl) ?_)
        refine gl_op (op_rd rfl (rd_extract rfl rfl) ?_)
        refine gl_op (op_rd rfl (rd_extract rfl rfl) ?_)
        refine gl_op (op_rd rfl (rd_assign rfl) ?_)
        refine gl_op (op_rd rfl (rd_assign rfl) ?_)
        refine gl_nil ?_
        refine gx_then ?_
        refine gc_seq ?_
        refine gc_region ?_
        refine gl_op (op_rd rfl (rd_loadAgg Try.underlying25 rfl ty_25 rfl (by first | exact cs_blk 1 (off := 0) (k := 3) rfl rfl | exact cs_blk 4 (off := 0) (k := 3) rfl rfl | exact cs_old (by assumption) (by simp)) rfl) ?_)
        refine gl_op (op_rd rfl (rd_move rfl) ?_)
        refine gl_op (op_rd rfl (rd_move rfl) ?_)
        refine gl_op (op_call rfl (vf := []) (vc := []) rfl rfl Try.call19 (fun w ho => NextE_ok c y im w (hc.at ho) hyl2 hin0 (ready_nat hck hyl hi2) hny) ?_)
        rintro _ _ ⟨r6, c6, rfl, rfl⟩
        refine gl_op (op_rd rfl (rd_move rfl) ?_)
        refine gl_op (op_rd rfl (rd_extract rfl rfl) ?_)
        refine gl_op (op_rd rfl (rd_extract rfl rfl) ?_)
        refine gl_op (op_rd rfl (rd_assign rfl) ?_)
        refine gl_op (op_rd rfl (rd_assign rfl) ?_)
        refine gl_nil ?_
        refine gx_then ?_
        refine gc_seq ?_
        refine gc_region ?_
        refine gl_op (op_rd rfl (rd_fieldAddr rfl (fa_40_0 _)) ?_)
        refine gl_op (op_rd rfl (rd_load Try.underlying3 rfl rfl (by first | exact ld_blk 2 rfl rfl | exact ld_blk 5 rfl rfl | exact ld_rowN 0 rfl (get_nats (by omega)) | exact ld_rowN 1 rfl (get_nats (by omega)) | exact ld_rowN 3 rfl (get_nats (by omega)) | exact ld_rowN 4 rfl (get_nats (by omega)) | exact ld_slN (by assumption) (get_nats (by omega)) | exact ld_rowN 0 rfl (get_ints (by omega)) | exact ld_rowN 1 rfl (get_ints (by omega)) | exact ld_rowN 3 rfl (get_ints (by omega)) | exact ld_rowN 4 rfl (get_ints (by omega)) | exact ld_slN (by assumption) (get_ints (by omega)) | exact ld_old (by assumption) (by simp) | exact ld_cells (by assumption) (by simp) rfl)) ?_)
        refine gl_op (op_rd rfl (rd_eql rfl rfl) (gk_dec (fun h117 => ?_) (fun h117 => ?_)))
        · skip
          refine gl_op (op_rd rfl (rd_move rfl) ?_)
          refine gl_yes rfl rfl (op_rd rfl (rd_move rfl) ?_)
          refine gl_op (op_rd rfl (rd_pick_t rfl rfl) ?_)
          refine gl_op (op_rd rfl (rd_move rfl) ?_)
          refine gl_yes rfl rfl (op_rd rfl (rd_move rfl) ?_)
          refine gl_yes rfl rfl (op_rd rfl (rd_move rfl) ?_)
          refine gl_yes rfl rfl (op_rd rfl (rd_neq rfl rfl) (gk_dec (fun h124 => ?_) (fun h124 => ?_)))
          · skip
            refine gl_op (op_rd rfl (rd_pick_t rfl rfl) ?_)
            refine gl_op (op_rd rfl (rd_move rfl) ?_)
            refine gl_yes rfl rfl (op_rd rfl (rd_move rfl) ?_)
            refine gl_yes rfl rfl (op_rd rfl (rd_eql rfl rfl) (gk_dec (fun h128 => ?_) (fun h128 => ?_)))
            · skip
              refine gl_op (op_rd rfl (rd_pick_t rfl rfl) ?_)
              refine gl_op (op_rd rfl (rd_move rfl) ?_)
              refine gl_yes rfl rfl (op_rd rfl (rd_move rfl) ?_)
              refine gl_yes rfl rfl (op_rd rfl (rd_eql rfl rfl) (gk_dec (fun h132 => ?_) (fun h132 => ?_)))
              · skip
                refine gl_op (op_rd rfl (rd_pick_t rfl rfl) ?_)
                refine gl_op (op_rd rfl (rd_move rfl) ?_)
                refine gl_yes rfl rfl (op_rd rfl (rd_move rfl) ?_)
                refine gl_yes rfl rfl (op_rd rfl (rd_lenSlice Try.underlying23 rfl) ?_)
                refine gl_yes rfl rfl (op_rd rfl (rd_move rfl) ?_)
                refine gl_yes rfl rfl (op_rd rfl (rd_lenSlice Try.underlying23 rfl) ?_)
                refine gl_yes rfl rfl (op_rd rfl (by first | exact rd_addN rfl rfl (by omega) | exact rd_add rfl rfl (by omega) (by omega)) ?_)
                refine gl_yes rfl rfl (op_rd rfl (rd_eql rfl rfl) (gk_dec (fun h140 => ?_) (fun h140 => ?_)))
                · skip
                  refine gl_op (op_rd rfl (rd_pick_t rfl rfl) ?_)
                  refine gl_op (op_rd rfl (rd_move rfl) ?_)
                  refine gl_yes rfl rfl (op_call rfl (vf := []) (vc := []) rfl rfl Try.call12 (fun w ho => awake_ok w hF) ?_)
                  rintro _ _ ⟨rfl, rfl⟩
                  refine gl_op (op_rd rfl (rd_pick_t rfl rfl) ?_)
                  refine gl_op (op_rd rfl (rd_assign rfl) ?_)
                  refine gl_nil ?_
                  refine gx_then ?_
                  refine gc_ret ?_
                  refine gx_ret1 (.inl rfl) Try.results4 rfl [] (by decide) ?_
                  exact ⟨rfl, rfl⟩
                · skip
                  exact absurd rfl h140
              · skip
                exact absurd rfl h132
            · skip
              exact absurd rfl h128
          · skip
            exact absurd (by omega) h124
        · skip
          exact absurd (by omega) h117

end Go.Proofs.Yteocjpnckciboaa

set_option autoImplicit false
set_option linter.unusedVariables false
namespace Go.Proofs.Yteocjpnckciboaa
open Go.Gv
open Go.RowKit Go.Deep Go.ChangeShapes Go.WideShapes
section
variable {H : Type} {enc : TypeId × Value → H} {P : Program} {w : World} {base : Nat} {spare : Nat → Bool} {held : Bool}
theorem trod_array2 {t e : TypeId} {fuel : Nat} {c0 c1 : Value} {x : DataW H × List MemPlace} (ht : P.underlying t = some (.array 2 e)) (hce : P.cellsOf e = 1)
    (h : DataW.trod enc P w base spare held fuel t [c0, c1] = some x) :
    ∃ y0 y1 n, x = (.agg [y0.1, y1.1], y0.2 ++ y1.2) ∧ DataW.trod enc P w base spare held n e [c0] = some y0 ∧ DataW.trod enc P w base spare held n e [c1] = some y1 := by
  cases fuel with
  | zero => simp [DataW.trod] at h
  | succ n =>
    unfold DataW.trod at h
    rw [ht] at h
    have r3 : List.range 2 = [0, 1] := rfl
    simp [r3, hce] at h
    obtain ⟨_, h⟩ := h
    cases h0 : DataW.trod enc P w base spare held n e [c0] with
    | none => simp [h0] at h
    | some y0 =>
      cases h1 : DataW.trod enc P w base spare held n e [c1] with
      | none => simp [h0, h1] at h
      | some y1 =>
        simp [h0, h1] at h
        exact ⟨y0, y1, n, h.symm, h0, h1⟩
theorem okWide_array {r : Reach} {t : TypeId} {v : Value} {N e : Nat} (ht : P.underlying t = some (.array N e)) (h : Value.okWide P w r base t v) : ∃ cs, v = .agg cs ∧ cs.size = P.cellsOf t := by
  simp only [Value.okWide, ht] at h
  obtain ⟨cs, h1, h2, _⟩ := h
  exact ⟨cs, h1, h2⟩
end
namespace Ry
section
variable {H : Type} {enc : TypeId × Value → H} {W : World} {base : Nat} {sp : Nat → Bool} {held : Bool}
theorem openU8 {n : Nat} {cs : List Value} {x : DataW H × List MemPlace} (h : DataW.trod enc Try.prog W base sp held n 27 cs = some x) (hw : ∀ b ∈ x.1.weights Try.prog 27, b ≤ reachBytes) :
    ∃ (a : Option Addr) (zs : List Nat) (cp : Nat), cs = [.slice a zs.length cp] ∧ OldSl W [] a zs.length 1 (zs.map fun n : Nat => Value.int .u8 (n : Int)) ∧ zs.length ≤ 140737488355328 ∧ ∀ n ∈ zs, n < 256 := by
  rcases open_slice1 Try.underlying27 (by kernel_rfl) h with ⟨rfl, rfl⟩ | ⟨a, len, cap, m, k, V, D, Pl, rfl, hb, hl, hm, hmm, rfl, hx⟩
  · exact ⟨none, [], 0, rfl, ⟨rfl, fun h => absurd h (by decide), fun j v hv => by simp at hv, fun h => absurd h (by decide)⟩, by decide, by simp⟩
  · have hml : len ≤ m := by rw [hmm]; split <;> omega
    have hone : ∀ i, i < len → ∃ z : Nat, W.cell? (a.add i) = some (.int .u8 (z : Int)) ∧ z < 256 := fun i hi => by
      obtain ⟨h1, h2⟩ := hx i (by omega)
      obtain ⟨z, e, _, hwf⟩ := DataW.trod_int Try.underlying5 h2
      simp at e
      have hz : 0 ≤ z ∧ z < 256 := by
        simp only [Lit.wf, Bool.and_eq_true, decide_eq_true_eq] at hwf
        have e1 : IntKind.u8.min = 0 := rfl
        have e2 : IntKind.u8.max = 255 := rfl
        omega
      refine ⟨z.toNat, ?_, by omega⟩
      rw [h1, e]; congr 2; omega
    obtain ⟨g, hg⟩ := choose_lt (α := Nat) (p := fun i z => W.cell? (a.add i) = some (.int .u8 (z : Int)) ∧ z < 256) hone
    refine ⟨some a, (List.range len).map g, cap, by simp, ⟨by simp, fun _ => rfl, fun j v hv => ?_, fun _ => by simp⟩, ?_, ?_⟩
    · have hj : j < len := by
        have := (List.getElem?_eq_some_iff.1 hv).1
        simpa using this
      simp [hj] at hv
      rw [← hv]; exact (hg j hj).1
    · have := hw _ (by rw [DataW.weights]; simp only [Try.underlying27]; exact List.mem_cons_self)
      simp only [List.length_map, List.length_range] at this ⊢
      have h8 : Try.prog.bytesOf 5 = 1 := by kernel_rfl
      rw [h8] at this
      have := reachBytes_lt
      omega
    · intro q hq
      obtain ⟨i, hi, rfl⟩ := List.mem_map.1 hq
      exact (hg i (List.mem_range.1 hi)).2
theorem openAt {n : Nat} {cs : List Value} {x : DataW H × List MemPlace} (h : DataW.trod enc Try.prog W base sp held n 26 cs = some x) (hl : cs.length = 2) : ∃ a0 a1 : Int, cs = [.int .i64 a0, .int .i64 a1] ∧ a0 ≤ 9223372036854775807 ∧ a1 ≤ 9223372036854775807 := by
  obtain ⟨u, v, rfl⟩ := len2 hl
  obtain ⟨y0, y1, k, rfl, h0, h1⟩ := trod_array2 Try.underlying26 (by kernel_rfl) h
  obtain ⟨z0, e0, _, w0⟩ := DataW.trod_int Try.underlying3 h0
  obtain ⟨z1, e1, _, w1⟩ := DataW.trod_int Try.underlying3 h1
  simp at e0 e1
  refine ⟨z0, z1, by rw [e0, e1], ?_, ?_⟩
  · exact (bounds_i64 w0).2
  · exact (bounds_i64 w1).2
end
end Ry
end Go.Proofs.Yteocjpnckciboaa
