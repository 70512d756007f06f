import Derived.Test.YtafmcflggikbfaaW02
import Derived.Test.YtafmcflggikbfaaW00
import Derived.Test.YtafmcflggikbfaaW01
/- A part of the proof: walks of the program. -/
set_option autoImplicit false
set_option linter.unusedSimpArgs false
set_option linter.unusedVariables false
set_option linter.unnecessarySimpa false
namespace Go.Wk
open Go.Gv
open Go.Sn
/-! # An order exists; the hours asL the document says them -/
theorem ord_grow {n : Nat} {pre : Nat → List Nat} : ∀ (m : Nat) (out : List Nat), n ≤ out.length + m → out.Nodup → (∀ i ∈ out, i < n) → (∀ k i, out[k]? = some i → ∀ p ∈ pre i, p ∈ out.take k) → ∃ o, Ord n pre o
  | m, out, hm, hn, hlt, ht => by
    by_cases hc : ∀ i, i < n → (∀ p ∈ pre i, p ∈ out) → i ∈ out
    · exact ⟨out, hn, hlt, ht, hc⟩
    · obtain ⟨i, hi⟩ := Classical.not_forall.1 hc
      simp only [Classical.not_imp] at hi
      obtain ⟨hil, hip, hio⟩ := hi
      have hn2 : (out ++ [i]).Nodup := by
        rw [List.nodup_append]
        refine ⟨hn, by simp, fun x hx y hy => ?_⟩
        rw [List.mem_singleton.1 hy]
        exact fun e => hio (e ▸ hx)
      have hlt2 : ∀ x ∈ out ++ [i], x < n := fun x hx => by
        rcases List.mem_append.1 hx with hx | hx
        · exact hlt x hx
        · rw [List.mem_singleton.1 hx]; exact hil
      have hlen := nodup_len hn2 hlt2
      rw [List.length_append, List.length_cons, List.length_nil] at hlen
      cases m with
      | zero => omega
      | succ m =>
        refine ord_grow m (out ++ [i]) (by simp; omega) hn2 hlt2 fun k x hk p hp => ?_
        rcases Nat.lt_or_ge k out.length with hkl | hkl
        · rw [List.getElem?_append_left hkl] at hk
          rw [List.take_append_of_le_length (by omega)]
          exact ht k x hk p hp
        · have hke : k = out.length := by
            have := (List.getElem?_eq_some_iff.1 hk).1
            rw [List.length_append, List.length_cons, List.length_nil] at this
            omega
          subst hke
          rw [List.getElem?_append_right (Nat.le_refl _), Nat.sub_self] at hk
          have hxi : i = x := by simpa using hk
          subst hxi
          rw [List.take_append_of_le_length (Nat.le_refl _), List.take_length]
          exact hip p hp
theorem ord_exists (n : Nat) (pre : Nat → List Nat) : ∃ o, Ord n pre o := ord_grow n [] (by simp) List.nodup_nil (by simp) (by simp)
structure GoodJ (l : List Jb) : Prop where
  ok : JOk l
  ord : ∃ o, Ord l.length (preOf l) o ∧ o.length = l.length
  all : ∀ o, Ord l.length (preOf l) o → o.length = l.length
def nOf (l : List JI) : List Jb := l.map JI.jb
theorem ji_jb (x : Jb) : x.ji.jb = x := by
  obtain ⟨name, bench, hours, aa, ac, after⟩ := x
  simp only [Jb.ji, JI.jb, Jb.mk.injEq, Int.toNat_natCast, true_and, List.map_map]
  conv => rhs; rw [← List.map_id after]
  apply List.map_congr_left
  intro a _
  simp [lagI]
theorem nOf_ji (n : List Jb) : nOf (n.map Jb.ji) = n := by
  unfold nOf
  rw [List.map_map]
  conv => rhs; rw [← List.map_id n]
  apply List.map_congr_left
  intro a _
  exact ji_jb a
theorem goodJ_of {l : List JI} (h : checkE l = 0) : ∃ n : List Jb, l = n.map Jb.ji ∧ GoodJ n ∧ nOf l = n := by
  obtain ⟨n, rfl, hj, hc⟩ := good_of h
  obtain ⟨o, ho⟩ := ord_exists n.length (preOf n)
  exact ⟨n, rfl, ⟨hj, ⟨o, ho, full_of ho hc⟩, fun o ho => full_of ho hc⟩, nOf_ji n⟩
def earlC (l : List Jb) : List Nat := earlR l l.length
theorem earlC_len (l : List Jb) : (earlC l).length = l.length := earlR_len l _
theorem earlC_eq {l : List Jb} (hg : GoodJ l) {o : List Nat} (ho : Ord l.length (preOf l) o) : earlK l o = earlC l := (earl_same ho (hg.all o ho)).symm
def endC (l : List Jb) : Nat := endF l (earlC l)
def latC (l : List Jb) : List Nat := latR l (endC l) l.length
theorem latC_eq {l : List Jb} (hg : GoodJ l) {o : List Nat} (ho : Ord l.length (preOf l) o) : latK l o (endC l) = latC l := by
  have h := earl_low ho (hg.all o ho)
  rw [earlC_eq hg ho] at h
  exact (lat_same hg.ok ho (hg.all o ho) h).symm
def critC (l : List Jb) : List Nat := critF l (earlC l) (latC l)
/-! ## bounds -/
theorem earlK_bd {l : List Jb} {o : List Nat} (hj : JOk l) (ho : Ord l.length (preOf l) o) (i : Nat) : (earlK l o).getD i 0 ≤ 80000 := by
  by_cases hi : i ∈ o
  · obtain ⟨k, hk⟩ := List.getElem?_of_mem hi
    have h1 := earl_bound hj ho k i hk
    have h2 := (List.getElem?_eq_some_iff.1 hk).1
    have h3 := nodup_len ho.nodup ho.lt
    have h4 := hj.n
    omega
  · have h := earlT_zero (l := l) ho (k := o.length) (i := i) (by rw [List.take_length]; exact hi)
    rw [earlT_all] at h
    omega
theorem bd_of {g : List Nat} {B : Nat} (h : ∀ i, g.getD i 0 ≤ B) : ∀ t ∈ g, t ≤ B := fun t ht => by
  obtain ⟨i, hi⟩ := List.getElem?_of_mem ht
  have := h i
  rw [List.getD_eq_getElem?_getD, hi] at this
  exact this
theorem earlT_bd {l : List Jb} {o : List Nat} (hj : JOk l) (ho : Ord l.length (preOf l) o) {k : Nat} (hk : k ≤ o.length) : ∀ t ∈ earlT l o k, t ≤ 80000 := bd_of fun i => Nat.le_trans (earlT_le ho k i hk) (earlK_bd hj ho i)
theorem earlC_bd {l : List Jb} (hg : GoodJ l) (i : Nat) : (earlC l).getD i 0 ≤ 80000 := by
  obtain ⟨o, ho, _⟩ := hg.ord
  rw [← earlC_eq hg ho]; exact earlK_bd hg.ok ho i
theorem hr_bd {l : List Jb} (hj : JOk l) (i : Nat) : hr l i ≤ 1000 := by
  rcases Nat.lt_or_ge i l.length with h | h
  · exact (hj.hrs i h).2
  · unfold hr jb
    rw [List.getD_eq_getElem?_getD, List.getElem?_eq_none h]
    exact Nat.zero_le _
theorem endC_bd {l : List Jb} (hg : GoodJ l) : endC l ≤ 81000 := endF_le.2 fun i _ => by
  have h1 := earlC_bd hg i
  have h2 := hr_bd hg.ok i
  omega
/-! ## the latest hours under way -/
def latI (l : List Jb) (t r i : Nat) : List Nat := (List.range i).foldl (latS l) (latR l t r)
def latJ (l : List Jb) (g : List Nat) (i k : Nat) : List Nat := ((jb l i).after.take k).foldl (latP l i) g
theorem latJ_zero (l : List Jb) (g : List Nat) (i : Nat) : latJ l g i 0 = g := rfl
theorem latJ_next {l : List Jb} {g : List Nat} {i k : Nat} {x : Jb} {y : Nat × Nat} (hx : l[i]? = some x) (hy : x.after[k]? = some y) : latJ l g i (k + 1) = latP l i (latJ l g i k) y := by
  unfold latJ
  rw [jb_at hx, take_at hy, List.foldl_append]; rfl
theorem latJ_all {l : List Jb} {g : List Nat} {i k : Nat} {x : Jb} (hx : l[i]? = some x) (hk : x.after.length ≤ k) : latJ l g i k = latS l g i := by
  unfold latJ latS
  rw [jb_at hx, List.take_of_length_le hk]
/-- a push takes nothing below the earliest hours, and needs no sign -/
structure LB (l : List Jb) (g : List Nat) : Prop where
  len : g.length = l.length
  ge : ∀ i, i < l.length → (earlC l).getD i 0 ≤ g.getD i 0
  le : ∀ i, i < l.length → g.getD i 0 ≤ 81000
theorem earlC_con {l : List Jb} (hg : GoodJ l) {i : Nat} (hi : i < l.length) : ∀ a ∈ (jb l i).after, (earlC l).getD a.1 0 + hr l a.1 + a.2 ≤ (earlC l).getD i 0 := by
  obtain ⟨o, ho, hf⟩ := hg.ord
  have := (earl_low ho hf).con i hi
  rw [earlC_eq hg ho] at this
  exact this
theorem LB.push {l : List Jb} (hg : GoodJ l) {g : List Nat} (h : LB l g) {i : Nat} (hi : i < l.length) {a : Nat × Nat} (ha : a ∈ (jb l i).after) : LB l (latP l i g a) ∧ a.2 + hr l a.1 ≤ g.getD i 0 := by
  have hc := earlC_con hg hi a ha
  have h1 := h.ge i hi
  have hal := (hg.ok.job i hi a ha).1
  have hget : ∀ j, (latP l i g a).getD j 0 = if a.1 = j then min (g.getD a.1 0) (g.getD i 0 - a.2 - hr l a.1) else g.getD j 0 := fun j => by unfold latP; exact getD_setN _ _ _ _ (by rw [h.len]; exact hal)
  refine ⟨⟨by unfold latP; rw [List.length_set]; exact h.len, fun j hj => ?_, fun j hj => ?_⟩, by omega⟩
  · rw [hget]
    split
    · rename_i e; subst e
      have := h.ge _ hj
      omega
    · exact h.ge j hj
  · rw [hget]
    split
    · rename_i e; subst e
      have := h.le _ hj
      omega
    · exact h.le j hj
theorem LB.part {l : List Jb} (hg : GoodJ l) {i : Nat} (hi : i < l.length) : ∀ (asL : List (Nat × Nat)) (g : List Nat), (∀ a ∈ asL, a ∈ (jb l i).after) → LB l g → LB l (asL.foldl (latP l i) g)
  | [], _, _, h => h
  | a :: asL, g, hs, h => LB.part hg hi asL _ (fun b hb => hs b (List.mem_cons_of_mem _ hb)) (h.push hg hi (hs a List.mem_cons_self)).1
theorem LB.latJ {l : List Jb} (hg : GoodJ l) {g : List Nat} (h : LB l g) {i k : Nat} (hi : i < l.length) : LB l (latJ l g i k) := LB.part hg hi _ g (fun a ha => List.mem_of_mem_take ha) h
theorem LB.latS {l : List Jb} (hg : GoodJ l) {g : List Nat} (h : LB l g) {i : Nat} (hi : i < l.length) : LB l (latS l g i) := LB.part hg hi _ g (fun a ha => ha) h
theorem LB.zero {l : List Jb} (hg : GoodJ l) : LB l (lat0 l (endC l)) := by
  have hget : ∀ i, i < l.length → (lat0 l (endC l)).getD i 0 = endC l - hr l i := fun i hi => by
    unfold lat0
    rw [List.getD_eq_getElem?_getD, List.getElem?_map, List.getElem?_range hi]; rfl
  refine ⟨by unfold lat0; simp, fun i hi => ?_, fun i hi => ?_⟩
  · rw [hget i hi]
    have := le_endF (l := l) (g := earlC l) hi
    unfold endC
    omega
  · rw [hget i hi]
    have := endC_bd hg
    omega
theorem LB.fold {l : List Jb} (hg : GoodJ l) : ∀ (is : List Nat) (g : List Nat), (∀ i ∈ is, i < l.length) → LB l g → LB l (is.foldl (Wk.latS l) g)
  | [], _, _, h => h
  | i :: is, g, hs, h => LB.fold hg is _ (fun j hj => hs j (List.mem_cons_of_mem _ hj)) (h.latS hg (hs i List.mem_cons_self))
theorem LB.latR {l : List Jb} (hg : GoodJ l) : ∀ r, LB l (latR l (endC l) r)
  | 0 => LB.zero hg
  | r + 1 => LB.fold hg _ _ (fun i hi => List.mem_range.1 hi) (LB.latR hg r)
theorem LB.latI {l : List Jb} (hg : GoodJ l) {r i : Nat} (hi : i ≤ l.length) : LB l (latI l (endC l) r i) := LB.fold hg _ _ (fun j hj => by have := List.mem_range.1 hj; omega) (LB.latR hg r)
/-! ## hours with signs -/
def aftSI (l : List Jb) (ats : List Int) (t : Int) (a : Nat × Nat) : Int := max t (ats.getD a.1 0 + hr l a.1 + a.2)
def aftI (l : List Jb) (ats : List Int) (i : Nat) : Int := (jb l i).after.foldl (aftSI l ats) 0
def castL (g : List Nat) : List Int := g.map fun n : Nat => (n : Int)
theorem castL_get (g : List Nat) (i : Nat) : (castL g).getD i 0 = ((g.getD i 0 : Nat) : Int) := by
  unfold castL
  rw [List.getD_eq_getElem?_getD, List.getElem?_map, List.getD_eq_getElem?_getD]
  cases g[i]? <;> rfl
theorem castL_len (g : List Nat) : (castL g).length = g.length := by unfold castL; simp
theorem aftI_fold (l : List Jb) (g : List Nat) : ∀ (asL : List (Nat × Nat)) (t : Nat), asL.foldl (aftSI l (castL g)) (t : Int) = ((asL.foldl (aftS l g) t : Nat) : Int)
  | [], _ => rfl
  | a :: asL, t => by
    rw [List.foldl_cons, List.foldl_cons, ← aftI_fold l g asL]
    congr 1
    unfold aftSI aftS
    rw [castL_get]
    omega
theorem aftI_cast (l : List Jb) (g : List Nat) (i : Nat) : aftI l (castL g) i = ((aft l g i : Nat) : Int) := aftI_fold l g _ 0
def aftP (l : List Jb) (ats : List Int) (i k : Nat) : Int := ((jb l i).after.take k).foldl (aftSI l ats) 0
theorem aftP_next {l : List Jb} {ats : List Int} {i k : Nat} {x z : Jb} {y : Nat × Nat} {t : Int} (hx : l[i]? = some x) (hy : x.after[k]? = some y) (hz : l[y.1]? = some z) (ht : ats[y.1]? = some t) : aftP l ats i (k + 1) = max (aftP l ats i k) (t + z.hours + y.2) := by
  unfold aftP
  rw [jb_at hx, take_at hy, List.foldl_append]
  show aftSI l ats _ y = _
  unfold aftSI
  rw [hr_at hz, List.getD_eq_getElem?_getD, ht]; rfl
theorem aftP_all {l : List Jb} {ats : List Int} {i k : Nat} {x : Jb} (hx : l[i]? = some x) (hk : x.after.length ≤ k) : aftP l ats i k = aftI l ats i := by
  unfold aftP aftI
  rw [jb_at hx, List.take_of_length_le hk]
theorem aftF_bd {l : List Jb} (hj : JOk l) {ats : List Int} {B : Int} (h0 : 0 ≤ B) (hb : ∀ t ∈ ats, t ≤ B) {i : Nat} (hi : i < l.length) : ∀ (asL : List (Nat × Nat)) (t : Int), (∀ a ∈ asL, a ∈ (jb l i).after) → 0 ≤ t → t ≤ B + 2000 → 0 ≤ asL.foldl (aftSI l ats) t ∧ asL.foldl (aftSI l ats) t ≤ B + 2000
  | [], t, _, h1, h2 => ⟨h1, h2⟩
  | a :: asL, t, hs, h1, h2 => by
    have ha := hs a List.mem_cons_self
    have hl := hj.job i hi a ha
    have hh := hr_bd hj a.1
    have hat : ats.getD a.1 0 ≤ B := by
      rw [List.getD_eq_getElem?_getD]
      cases hq : ats[a.1]? with
      | none => exact h0
      | some q => exact hb q (List.mem_of_getElem? hq)
    rw [List.foldl_cons]
    refine aftF_bd hj h0 hb hi asL _ (fun b hb => hs b (List.mem_cons_of_mem _ hb)) ?_ ?_
    · unfold aftSI; omega
    · unfold aftSI; omega
theorem aftP_bd {l : List Jb} (hj : JOk l) {ats : List Int} {B : Int} (h0 : 0 ≤ B) (hb : ∀ t ∈ ats, t ≤ B) {i k : Nat} (hi : i < l.length) : 0 ≤ aftP l ats i k ∧ aftP l ats i k ≤ B + 2000 := aftF_bd hj h0 hb hi _ 0 (fun a ha => List.mem_of_mem_take ha) (Int.le_refl _) (by omega)
theorem aftI_bd {l : List Jb} (hj : JOk l) {ats : List Int} {B : Int} (h0 : 0 ≤ B) (hb : ∀ t ∈ ats, t ≤ B) {i : Nat} (hi : i < l.length) : 0 ≤ aftI l ats i ∧ aftI l ats i ≤ B + 2000 := aftF_bd hj h0 hb hi _ 0 (fun a ha => ha) (Int.le_refl _) (by omega)
def endP (l : List Jb) (g : List Nat) (k : Nat) : Nat := (List.range k).foldl (endS l g) 0
theorem endP_next {l : List Jb} {g : List Nat} {k : Nat} {x : Jb} {t : Nat} (hx : l[k]? = some x) (ht : g[k]? = some t) : endP l g (k + 1) = max (endP l g k) (t + x.hours) := by
  unfold endP
  rw [List.range_succ, List.foldl_append]
  show endS l g _ k = _
  unfold endS
  rw [hr_at hx, List.getD_eq_getElem?_getD, ht]; rfl
theorem endP_bd {l : List Jb} (hj : JOk l) {g : List Nat} {B : Nat} (hb : ∀ t ∈ g, t ≤ B) (k : Nat) : endP l g k ≤ B + 1000 := by
  unfold endP
  rw [endS_le]
  refine ⟨by omega, fun i _ => ?_⟩
  have h1 := hr_bd hj i
  have h2 : g.getD i 0 ≤ B := by
    rw [List.getD_eq_getElem?_getD]
    cases hq : g[i]? with
    | none => exact Nat.zero_le _
    | some q => exact hb q (List.mem_of_getElem? hq)
  omega
end Go.Wk
namespace Go.Proofs.Ytafmcflggikbfaa
open Go.Gv
open Go.RowKit
open Go.Sn
open Go.Wk
open Sx
namespace Sx
theorem get_intL {g : List Int} {p : Nat} {t : Int} (h : g[p]? = some t) : (g.map intV)[p]? = some (intV t) := by rw [List.getElem?_map, h]; rfl
theorem cast_sl {w : World} {S : List Nat} {q : Option Addr} {g : List Nat} (h : OldSl w S q g.length 1 (g.map natV)) : OldSl w S q (castL g).length 1 ((castL g).map intV) := by
  rw [castL_len]
  have e : (castL g).map intV = g.map natV := natInt g
  rw [e]; exact h
theorem cast_bd {g : List Nat} {B : Nat} (h : ∀ t ∈ g, t ≤ B) : ∀ t ∈ castL g, (0 : Int) ≤ t ∧ t ≤ (B : Int) := fun t ht => by
  obtain ⟨n, hn, rfl⟩ := List.mem_map.1 ht
  have := h n hn
  omega
theorem job_le {l : List Jb} (hj : JOk l) {i : Nat} {x : Jb} (hx : l[i]? = some x) : 1 ≤ x.hours ∧ x.hours ≤ 1000 := by
  have := hj.hrs i (List.getElem?_eq_some_iff.1 hx).1
  rw [hr_at hx] at this; exact this
end Sx
open Sx
set_option maxRecDepth 100000 in
set_option maxHeartbeats 1000000 in
theorem after_ok (a : Option Addr) (c : Nat) (l : List Jb) (hj : JOk l) (q : Option Addr) (cq : Nat) (ats : List Int) (hal : ats.length = l.length) (hb : ∀ t ∈ ats, -1099511627776 ≤ t ∧ t ≤ 1099511627776) (i : Nat) (x : Jb) (hx : l[i]? = some x) (w0 : World) (hJ : JnIn a l w0 []) (hT : OldSl w0 [] q ats.length 1 (ats.map intV)) : Sp Try.prog 41 [.slice a l.length c, .slice q ats.length cq, natV i] w0 [] (RV (.int .i64 (aftI l ats i))) := by
  have hln := hj.n
  have hil := (List.getElem?_eq_some_iff.1 hx).1
  have hxl := hj.lags x (List.mem_of_getElem? hx)
  refine spec_enter Try.func41 rfl Try.ntmps41 rfl (Own.refl _) ?_
  simp only [argEnv]
  refine gc_seq <| gc_region <| gl_op <| op_rd rfl (rd_assign rfl) <| gl_nil <| gx_then <| gc_seq <| gc_region <| gl_op <| op_rd rfl (rd_assign rfl) <| gl_nil <| gx_then <| gc_seq <| gc_seq <| gc_region <| gl_op <| op_rd rfl (rd_move rfl) <| gl_op <| op_rd rfl (rd_move rfl) <| gl_op (op_rd rfl (rd_indexOld hJ.t Try.underlying22 ty_48 rfl rfl (by omega) (by omega)) ?_)
  refine gl_op <| op_rd rfl (rd_fieldAddr rfl (fa_48_3 _)) <| gl_op (op_rd rfl (rd_load Try.underlying46 rfl rfl (ld_slf hJ.t (get_flat Jb.cells 4 (fun _ => rfl) hx (j := 3) (by decide) rfl))) ?_)
  refine gl_op <| op_rd rfl (rd_lenSlice Try.underlying46 rfl) <| gl_op <| op_rd rfl (rd_move rfl) <| gl_nil <| gx_then <| gc_block <| gc_loopF (ι := Nat) [(0, _), (1, _), (14, _), (15, _)] [] (fun k => k ≤ x.after.length) (fun k Fr0 => ((7, .int .i64 (aftP l ats i k)) :: (16, natV k) :: Fr0)) (fun k Fr0 => Fr0) (fun k => x.after.length - k) 0 (Nat.zero_le _) ⟨rfl, rfl, rfl, rfl, rfl, rfl, trivial⟩ ⟨[], by decide, rfl⟩ ?_
  rintro k hk
  refine gc_seq <| gc_region <| gl_op (op_rd rfl (rd_lss rfl rfl) (gk_dec (fun h17 => ?_) (fun h17 => ?_)))
  · obtain ⟨y, hy⟩ := get_some (show k < x.after.length by omega)
    have hyl := lag_lt hj hx hy
    obtain ⟨z, hz⟩ := get_some (show y.1 < l.length by omega)
    have hzh := job_le hj hz
    obtain ⟨t, ht⟩ := get_some (show y.1 < ats.length by omega)
    have htb := hb t (List.mem_of_getElem? ht)
    have hpb := aftP_bd hj (B := 1099511627776) (by omega) (fun t ht => (hb t ht).2) (k := k) (List.getElem?_eq_some_iff.1 hx).1
    refine gl_nil <| gx_then <| gc_seq <| gc_cond_t rfl <| gc_skip <| gx_then <| gc_seq <| gc_block <| gc_seq <| gc_region <| gl_op (op_rd rfl (rd_indexOld (hJ.r x (List.mem_of_getElem? hx)) Try.underlying46 ty_50 rfl rfl (by omega) (by omega)) ?_)
    refine gl_op (op_rd rfl (rd_loadAgg Try.underlying50 rfl ty_50 rfl (cs_slN (hJ.r x (List.mem_of_getElem? hx)) (flat_drop_get lagN 2 (fun _ => rfl) hy)) rfl) ?_)
    refine gl_op (op_alloc ty_50 rfl rfl (fun b9 => ?_))
    refine gl_op (op_storeAgg 0 ty_50 rfl rfl rfl rfl rfl rfl (by rfl) ?_)
    refine gl_nil <| gx_then <| gc_drawP [0] true 17 rfl <| ga_first 0 (bm 18 1) rfl rfl rfl rfl (by kernel_rfl) (by kernel_rfl) ⟨[0], by decide, rfl⟩ (qt_rd (rd_move rfl)) ?_
    refine ga_first 1 (bm 18 3) rfl rfl rfl rfl (by kernel_rfl) (by kernel_rfl) ⟨[0], by decide, rfl⟩ (qt_rd (rd_move rfl)) ?_
    refine ga_first 2 (bm 18 7) rfl rfl rfl rfl (by kernel_rfl) (by kernel_rfl) ⟨[0], by decide, rfl⟩ (qt_rd (rd_fieldAddr rfl (fa_50_0 _))) ?_
    refine ga_first 3 (bm 18 15) rfl rfl rfl rfl (by kernel_rfl) (by kernel_rfl) ⟨[0], by decide, rfl⟩ (qt_rd (rd_load Try.underlying3 rfl rfl (by exact ld_blk 0 rfl rfl))) ?_
    refine ga_first 4 (bm 18 31) rfl rfl rfl rfl (by kernel_rfl) (by kernel_rfl) ⟨[0], by decide, rfl⟩ (qt_rd (rd_indexOld1 hT Try.underlying25 ty_2 rfl rfl (by omega) (by omega))) ?_
    refine ga_first 5 (bm 18 63) rfl rfl rfl rfl (by kernel_rfl) (by kernel_rfl) ⟨[0], by decide, rfl⟩ (qt_rd (rd_load Try.underlying2 rfl rfl (ld_slN hT (get_intL ht)))) ?_
    refine ga_first 6 (bm 18 127) rfl rfl rfl rfl (by kernel_rfl) (by kernel_rfl) ⟨[0], by decide, rfl⟩ (qt_rd (rd_move rfl)) ?_
    refine ga_first 7 (bm 18 255) rfl rfl rfl rfl (by kernel_rfl) (by kernel_rfl) ⟨[0], by decide, rfl⟩ (qt_rd (rd_fieldAddr rfl (fa_50_0 _))) ?_
    refine ga_first 8 (bm 18 511) rfl rfl rfl rfl (by kernel_rfl) (by kernel_rfl) ⟨[0], by decide, rfl⟩ (qt_rd (rd_load Try.underlying3 rfl rfl (by exact ld_blk 0 rfl rfl))) ?_
    refine ga_first 9 (bm 18 1023) rfl rfl rfl rfl (by kernel_rfl) (by kernel_rfl) ⟨[0], by decide, rfl⟩ (qt_rd (rd_indexOld hJ.t Try.underlying22 ty_48 rfl rfl (by omega) (by omega))) ?_
    refine ga_first 10 (bm 18 2047) rfl rfl rfl rfl (by kernel_rfl) (by kernel_rfl) ⟨[0], by decide, rfl⟩ (qt_rd (rd_fieldAddr rfl (fa_48_2 _))) ?_
    refine ga_first 11 (bm 18 4095) rfl rfl rfl rfl (by kernel_rfl) (by kernel_rfl) ⟨[0], by decide, rfl⟩ (qt_rd (rd_load Try.underlying2 rfl rfl (ld_slf hJ.t (get_flat Jb.cells 4 (fun _ => rfl) hz (j := 2) (by decide) rfl)))) ?_
    refine ga_first 12 (bm 18 8191) rfl rfl rfl rfl (by kernel_rfl) (by kernel_rfl) ⟨[0], by decide, rfl⟩ (qt_rd (by exact rd_add rfl rfl (by omega) (by omega))) ?_
    refine ga_first 13 (bm 18 16383) rfl rfl rfl rfl (by kernel_rfl) (by kernel_rfl) ⟨[0], by decide, rfl⟩ (qt_rd (rd_fieldAddr rfl (fa_50_1 _))) ?_
    refine ga_first 14 (bm 18 32767) rfl rfl rfl rfl (by kernel_rfl) (by kernel_rfl) ⟨[0], by decide, rfl⟩ (qt_rd (rd_load Try.underlying2 rfl rfl (by exact ld_blk 0 rfl rfl))) ?_
    refine ga_first 15 (bm 18 65535) rfl rfl rfl rfl (by kernel_rfl) (by kernel_rfl) ⟨[0], by decide, rfl⟩ (qt_rd (by exact rd_add rfl rfl (by omega) (by omega))) ?_
    refine ga_first 16 (bm 18 131071) rfl rfl rfl rfl (by kernel_rfl) (by kernel_rfl) ⟨[0], by decide, rfl⟩ (qt_rd (rd_max2 rfl rfl)) ?_
    refine ga_first 17 (bm 18 262143) rfl rfl rfl rfl (by kernel_rfl) (by kernel_rfl) ⟨[0], by decide, rfl⟩ (qt_rd (rd_assign rfl)) ?_
    refine ga_end (by kernel_rfl) (.inr ⟨[0], by decide, rfl⟩) ?_
    refine gx_block <| gx_then <| gc_region <| gl_op (op_rd rfl (by exact rd_addN (b := 1) rfl rfl (by omega)) ?_)
    refine gl_op <| op_rd rfl (rd_move rfl) <| gl_nil <| gx_then ?_
    rw [← aftP_next hx hy hz ht]
    exact gx_cut (k + 1) ⟨by omega, by omega⟩ ⟨rfl, rfl, rfl, rfl, rfl, rfl, trivial⟩ ⟨[], by decide, rfl⟩
  refine gl_nil <| gx_then <| gc_seq <| gc_cond_f rfl <| gc_exit <| gx_then_exit <| gx_then_exit <| gx_block_exit <| gx_then <| gc_seq <| gc_region <| gl_op <| op_rd rfl (rd_move rfl) <| gl_op <| op_rd rfl (rd_assign rfl) <| gl_nil <| gx_then <| gc_ret <| gx_ret1 (.inl rfl) Try.results41 rfl [] (by decide) ?_
  refine ⟨congrArg (Value.int .i64) ?_, rfl⟩
  exact aftP_all hx (by omega)
theorem afterN_ok (a : Option Addr) (c : Nat) (l : List Jb) (hj : JOk l) (q : Option Addr) (cq : Nat) (g : List Nat) (hgl : g.length = l.length) (hgb : ∀ t ∈ g, t ≤ 1000000) (i : Nat) (x : Jb) (hx : l[i]? = some x) (w0 : World) (hJ : JnIn a l w0 []) (hT : OldSl w0 [] q g.length 1 (g.map natV)) : Sp Try.prog 41 [.slice a l.length c, .slice q g.length cq, natV i] w0 [] (RV (natV (aft l g i))) := by
  have h := after_ok a c l hj q cq (castL g) (by rw [castL_len]; exact hgl) (fun t ht => by have := cast_bd hgb t ht; omega) i x hx w0 hJ (cast_sl hT)
  rw [castL_len, aftI_cast] at h
  exact h
set_option maxRecDepth 100000 in
set_option maxHeartbeats 1000000 in
theorem end_ok (a : Option Addr) (c : Nat) (l : List Jb) (hj : JOk l) (q : Option Addr) (cq : Nat) (g : List Nat) (hgl : g.length = l.length) (hgb : ∀ t ∈ g, t ≤ 1000000) (w0 : World) (hJ : JnIn a l w0 []) (hT : OldSl w0 [] q g.length 1 (g.map natV)) : Sp Try.prog 29 [.slice a l.length c, .slice q g.length cq] w0 [] (RV (natV (endF l g))) := by
  have hln := hj.n
  refine spec_enter Try.func29 rfl Try.ntmps29 rfl (Own.refl _) ?_
  simp only [argEnv]
  refine gc_seq <| gc_region <| gl_op <| op_rd rfl (rd_assign rfl) <| gl_nil <| gx_then <| gc_seq <| gc_region <| gl_op <| op_rd rfl (rd_assign rfl) <| gl_nil <| gx_then <| gc_seq <| gc_seq <| gc_region <| gl_op <| op_rd rfl (rd_move rfl) <| gl_op <| op_rd rfl (rd_lenSlice Try.underlying22 rfl) <| gl_op <| op_rd rfl (rd_move rfl) <| gl_nil <| gx_then <| gc_block <| gc_loopF (ι := Nat) [(1, _), (8, _), (9, _)] [] (fun k => k ≤ l.length) (fun k Fr0 => ((5, natV (endP l g k)) :: (10, natV k) :: Fr0)) (fun k Fr0 => Fr0) (fun k => l.length - k) 0 (Nat.zero_le _) ⟨rfl, rfl, rfl, rfl, rfl, trivial⟩ ⟨[], by decide, rfl⟩ ?_
  rintro k hk
  refine gc_seq <| gc_region <| gl_op (op_rd rfl (rd_lss rfl rfl) (gk_dec (fun h11 => ?_) (fun h11 => ?_)))
  · obtain ⟨x, hx⟩ := get_some (show k < l.length by omega)
    have hxh := job_le hj hx
    obtain ⟨t, ht⟩ := get_some (show k < g.length by omega)
    have htb := hgb t (List.mem_of_getElem? ht)
    have hpb := endP_bd hj hgb k
    refine gl_nil <| gx_then <| gc_seq <| gc_cond_t rfl <| gc_skip <| gx_then <| gc_seq <| gc_block <| gc_seq <| gc_region <| gl_op <| op_rd rfl (rd_move rfl) <| gl_op (op_rd rfl (rd_indexOld hJ.t Try.underlying22 ty_48 rfl rfl (by omega) (by omega)) ?_)
    refine gl_op (op_rd rfl (rd_loadAgg Try.underlying48 rfl ty_48 rfl (cs_slN hJ.t (flat_drop_get Jb.cells 4 (fun _ => rfl) hx)) rfl) ?_)
    refine gl_op (op_alloc ty_48 rfl rfl (fun b7 => ?_))
    refine gl_op <| op_rd rfl (rd_assign rfl) <| gl_op (op_storeAgg 0 ty_48 rfl rfl rfl rfl rfl rfl (by rfl) ?_)
    refine gl_nil <| gx_then <| gc_drawP [0] true 9 rfl <| ga_first 0 (bm 10 1) rfl rfl rfl rfl (by kernel_rfl) (by kernel_rfl) ⟨[0], by decide, rfl⟩ (qt_rd (rd_move rfl)) ?_
    refine ga_first 1 (bm 10 3) rfl rfl rfl rfl (by kernel_rfl) (by kernel_rfl) ⟨[0], by decide, rfl⟩ (qt_rd (rd_move rfl)) ?_
    refine ga_first 2 (bm 10 7) rfl rfl rfl rfl (by kernel_rfl) (by kernel_rfl) ⟨[0], by decide, rfl⟩ (qt_rd (rd_move rfl)) ?_
    refine ga_first 3 (bm 10 15) rfl rfl rfl rfl (by kernel_rfl) (by kernel_rfl) ⟨[0], by decide, rfl⟩ (qt_rd (rd_indexOld1 hT Try.underlying25 ty_2 rfl rfl (by omega) (by omega))) ?_
    refine ga_first 4 (bm 10 31) rfl rfl rfl rfl (by kernel_rfl) (by kernel_rfl) ⟨[0], by decide, rfl⟩ (qt_rd (rd_load Try.underlying2 rfl rfl (ld_slN hT (get_natK ht)))) ?_
    refine ga_first 5 (bm 10 63) rfl rfl rfl rfl (by kernel_rfl) (by kernel_rfl) ⟨[0], by decide, rfl⟩ (qt_rd (rd_fieldAddr rfl (fa_48_2 _))) ?_
    refine ga_first 6 (bm 10 127) rfl rfl rfl rfl (by kernel_rfl) (by kernel_rfl) ⟨[0], by decide, rfl⟩ (qt_rd (rd_load Try.underlying2 rfl rfl (by exact ld_blk 0 rfl rfl))) ?_
    refine ga_first 7 (bm 10 255) rfl rfl rfl rfl (by kernel_rfl) (by kernel_rfl) ⟨[0], by decide, rfl⟩ (qt_rd (by exact rd_addN rfl rfl (by omega))) ?_
    refine ga_first 8 (bm 10 511) rfl rfl rfl rfl (by kernel_rfl) (by kernel_rfl) ⟨[0], by decide, rfl⟩ (qt_rd (rd_max2 rfl rfl)) ?_
    refine ga_first 9 (bm 10 1023) rfl rfl rfl rfl (by kernel_rfl) (by kernel_rfl) ⟨[0], by decide, rfl⟩ (qt_rd (rd_assign rfl)) ?_
    refine ga_end (by kernel_rfl) (.inr ⟨[0], by decide, rfl⟩) ?_
    refine gx_block <| gx_then <| gc_region <| gl_op (op_rd rfl (by exact rd_addN (b := 1) rfl rfl (by omega)) ?_)
    refine gl_op <| op_rd rfl (rd_move rfl) <| gl_nil <| gx_then ?_
    rw [show max ((endP l g k : Nat) : Int) ((t + x.hours : Nat) : Int) = ((endP l g (k + 1) : Nat) : Int) by rw [endP_next hx ht]; omega]
    exact gx_cut (k + 1) ⟨by omega, by omega⟩ ⟨rfl, rfl, rfl, rfl, rfl, trivial⟩ ⟨[], by decide, rfl⟩
  refine gl_nil <| gx_then <| gc_seq <| gc_cond_f rfl <| gc_exit <| gx_then_exit <| gx_then_exit <| gx_block_exit <| gx_then <| gc_seq <| gc_region <| gl_op <| op_rd rfl (rd_move rfl) <| gl_op <| op_rd rfl (rd_assign rfl) <| gl_nil <| gx_then <| gc_ret <| gx_ret1 (.inl rfl) Try.results29 rfl [] (by decide) ?_
  have hk9 : k = l.length := by omega
  subst hk9
  exact ⟨rfl, rfl⟩
set_option maxRecDepth 100000 in
set_option maxHeartbeats 1000000 in
theorem rEnd_ok (a : Option Addr) (c : Nat) (l : List Jb) (hj : JOk l) (q : Option Addr) (cq : Nat) (g : List Nat) (hgl : g.length = l.length) (hgb : ∀ t ∈ g, t ≤ 1000000) (w0 : World) (hJ : JnIn a l w0 []) (hT : OldSl w0 [] q g.length 1 (g.map natV)) : Sp Try.prog 22 [.slice a l.length c, .slice q g.length cq] w0 [] (RV (natV (endF l g))) := by
  have hln := hj.n
  refine spec_enter Try.func22 rfl Try.ntmps22 rfl (Own.refl _) ?_
  simp only [argEnv]
  refine gc_seq <| gc_region <| gl_op <| op_rd rfl (rd_assign rfl) <| gl_nil <| gx_then <| gc_seq <| gc_region <| gl_op <| op_rd rfl (rd_assign rfl) <| gl_nil <| gx_then <| gc_seq <| gc_seq <| gc_region <| gl_op <| op_rd rfl (rd_assign rfl) <| gl_nil <| gx_then <| gc_block <| gc_loopF (ι := Nat) [(0, _), (1, _)] [] (fun k => k ≤ l.length) (fun k Fr0 => ((5, natV (endP l g k)) :: (6, natV k) :: Fr0)) (fun k Fr0 => Fr0) (fun k => l.length - k) 0 (Nat.zero_le _) ⟨rfl, rfl, rfl, rfl, trivial⟩ ⟨[], by decide, rfl⟩ ?_
  rintro k hk
  refine gc_seq <| gc_seq <| gc_region <| gl_op <| op_rd rfl (rd_move rfl) <| gl_op <| op_rd rfl (rd_move rfl) <| gl_op <| op_rd rfl (rd_lenSlice Try.underlying22 rfl) <| gl_op (op_rd rfl (rd_lss rfl rfl) (gk_dec (fun h10 => ?_) (fun h10 => ?_)))
  · obtain ⟨x, hx⟩ := get_some (show k < l.length by omega)
    have hxh := job_le hj hx
    obtain ⟨t, ht⟩ := get_some (show k < g.length by omega)
    have htb := hgb t (List.mem_of_getElem? ht)
    have hpb := endP_bd hj hgb k
    refine gl_nil <| gx_then <| gc_cond_t rfl <| gc_skip <| gx_then <| gc_seq <| gc_block <| gc_drawP [] true 12 rfl <| ga_first 0 (bm 13 1) rfl rfl rfl rfl (by kernel_rfl) (by kernel_rfl) ⟨[], by decide, rfl⟩ (qt_rd (rd_move rfl)) ?_
    refine ga_first 1 (bm 13 3) rfl rfl rfl rfl (by kernel_rfl) (by kernel_rfl) ⟨[], by decide, rfl⟩ (qt_rd (rd_move rfl)) ?_
    refine ga_first 2 (bm 13 7) rfl rfl rfl rfl (by kernel_rfl) (by kernel_rfl) ⟨[], by decide, rfl⟩ (qt_rd (rd_move rfl)) ?_
    refine ga_first 3 (bm 13 15) rfl rfl rfl rfl (by kernel_rfl) (by kernel_rfl) ⟨[], by decide, rfl⟩ (qt_rd (rd_indexOld1 hT Try.underlying25 ty_2 rfl rfl (by omega) (by omega))) ?_
    refine ga_first 4 (bm 13 31) rfl rfl rfl rfl (by kernel_rfl) (by kernel_rfl) ⟨[], by decide, rfl⟩ (qt_rd (rd_load Try.underlying2 rfl rfl (ld_slN hT (get_natK ht)))) ?_
    refine ga_first 5 (bm 13 63) rfl rfl rfl rfl (by kernel_rfl) (by kernel_rfl) ⟨[], by decide, rfl⟩ (qt_rd (rd_move rfl)) ?_
    refine ga_first 6 (bm 13 127) rfl rfl rfl rfl (by kernel_rfl) (by kernel_rfl) ⟨[], by decide, rfl⟩ (qt_rd (rd_move rfl)) ?_
    refine ga_first 7 (bm 13 255) rfl rfl rfl rfl (by kernel_rfl) (by kernel_rfl) ⟨[], by decide, rfl⟩ (qt_rd (rd_indexOld hJ.t Try.underlying22 ty_48 rfl rfl (by omega) (by omega))) ?_
    refine ga_first 8 (bm 13 511) rfl rfl rfl rfl (by kernel_rfl) (by kernel_rfl) ⟨[], by decide, rfl⟩ (qt_rd (rd_fieldAddr rfl (fa_48_2 _))) ?_
    refine ga_first 9 (bm 13 1023) rfl rfl rfl rfl (by kernel_rfl) (by kernel_rfl) ⟨[], by decide, rfl⟩ (qt_rd (rd_load Try.underlying2 rfl rfl (ld_slf hJ.t (get_flat Jb.cells 4 (fun _ => rfl) hx (j := 2) (by decide) rfl)))) ?_
    refine ga_first 10 (bm 13 2047) rfl rfl rfl rfl (by kernel_rfl) (by kernel_rfl) ⟨[], by decide, rfl⟩ (qt_rd (by exact rd_addN rfl rfl (by omega))) ?_
    refine ga_first 11 (bm 13 4095) rfl rfl rfl rfl (by kernel_rfl) (by kernel_rfl) ⟨[], by decide, rfl⟩ (qt_rd (rd_max2 rfl rfl)) ?_
    refine ga_first 12 (bm 13 8191) rfl rfl rfl rfl (by kernel_rfl) (by kernel_rfl) ⟨[], by decide, rfl⟩ (qt_rd (rd_assign rfl)) ?_
    refine ga_end (by kernel_rfl) (.inr ⟨[], by decide, rfl⟩) ?_
    refine gx_block <| gx_then <| gc_region <| gl_op <| op_rd rfl (rd_move rfl) <| gl_op (op_rd rfl (by exact rd_addN (b := 1) rfl rfl (by omega)) ?_)
    refine gl_op <| op_rd rfl (rd_assign rfl) <| gl_nil <| gx_then ?_
    rw [show max ((endP l g k : Nat) : Int) ((t + x.hours : Nat) : Int) = ((endP l g (k + 1) : Nat) : Int) by rw [endP_next hx ht]; omega]
    exact gx_cut (k + 1) ⟨by omega, by omega⟩ ⟨rfl, rfl, rfl, rfl, trivial⟩ ⟨[], by decide, rfl⟩
  refine gl_nil <| gx_then <| gc_cond_f rfl <| gc_exit <| gx_then_exit <| gx_then_exit <| gx_block_exit <| gx_then <| gc_seq <| gc_region <| gl_op <| op_rd rfl (rd_move rfl) <| gl_op <| op_rd rfl (rd_assign rfl) <| gl_nil <| gx_then <| gc_ret <| gx_ret1 (.inl rfl) Try.results22 rfl [] (by decide) ?_
  have hk9 : k = l.length := by omega
  subst hk9
  exact ⟨rfl, rfl⟩
end Go.Proofs.Ytafmcflggikbfaa
namespace Go.Proofs.Ytafmcflggikbfaa
open Go.Gv
open Go.RowKit
open Go.Sn
open Go.Wk
open Sx
namespace Sx
theorem earlT_st {l : List Jb} {o : List Nat} {k i : Nat} (h : o[k]? = some i) : ((earlT l o k).map natV).set i (natV (aft l (earlT l o k) i)) = (earlT l o (k + 1)).map natV := by
  rw [earlT_next h, set_natL]; rfl
def EarlR (t : TypeId) (l : List JI) (v : Value) (L : List HL) : Prop :=
  (checkE l ≠ 0 ∧ v = .tuple #[.slice none 0 0, .int .i64 (checkE l)] ∧ L = []) ∨
  (checkE l = 0 ∧ ∃ b : Nat, v = .tuple #[.slice (rowA (some b)) (nOf l).length (nOf l).length, .int .i64 0] ∧ L = [.row t 1 (some b) (nOf l).length (nOf l).length ((earlC (nOf l)).map natV)])
end Sx
open Sx
set_option maxRecDepth 100000 in
set_option maxHeartbeats 1000000 in
theorem earliest_ok (a : Option Addr) (c : Nat) (l : List Jb) (hg : GoodJ l) (w0 : World) (hJ : JnIn a l w0 []) (oa : Option Addr) (oc : Nat) (o : List Nat) (ho : Ord l.length (preOf l) o) (hO : OldSl w0 [] oa o.length 1 (o.map natV)) : Sp Try.prog 27 [.slice a l.length c, .slice oa o.length oc] w0 [] (fun v L => ∃ b : Nat, v = .slice (rowA (some b)) l.length l.length ∧ L = [.row 2 1 (some b) l.length l.length ((earlC l).map natV)]) := by
  have hj := hg.ok
  have hln := hj.n
  have hol := nodup_len ho.nodup ho.lt
  refine spec_enter Try.func27 rfl Try.ntmps27 rfl (Own.refl _) ?_
  simp only [argEnv]
  refine gc_seq <| gc_region <| gl_op <| op_rd rfl (rd_assign rfl) <| gl_nil <| gx_then <| gc_seq <| gc_region <| gl_op <| op_rd rfl (rd_move rfl) <| gl_op <| op_rd rfl (rd_lenSlice Try.underlying22 rfl) <| gl_op (op_makeSlice (l.length) Try.underlying25 ty_2 rfl rfl rfl (by omega) (by omega) (by omega) (by omega) (fun b10 => ?_))
  refine gl_op <| op_rd rfl (rd_assign rfl) <| gl_nil <| gx_then <| gc_seq <| gc_seq ?_
  rw [made_one _ rfl, show List.replicate l.length (Value.int IntKind.i64 0) = (earlT l o 0).map natV by simp [earlT]]
  refine gc_region <| gl_op <| op_rd rfl (rd_move rfl) <| gl_op <| op_rd rfl (rd_lenSlice Try.underlying29 rfl) <| gl_op <| op_rd rfl (rd_move rfl) <| gl_nil <| gx_then <| gc_block <| gc_loopF (ι := Nat) [(0, _), (5, _), (11, _), (12, _)] [] (fun k => k ≤ o.length) (fun k Fr0 => ((13, natV k) :: Fr0)) (fun k Fr0 => (.row 2 1 (some b10) l.length l.length ((earlT l o k).map natV) :: Fr0)) (fun k => o.length - k) 0 (Nat.zero_le _) ⟨rfl, rfl, rfl, rfl, rfl, trivial⟩ ⟨[0], by decide, rfl⟩ ?_
  rintro k hk
  refine gc_seq <| gc_region <| gl_op (op_rd rfl (rd_lss rfl rfl) (gk_dec (fun h14 => ?_) (fun h14 => ?_)))
  · obtain ⟨i, hi⟩ := get_some (show k < o.length by omega)
    have hil := ho.lt i (List.mem_of_getElem? hi)
    obtain ⟨x, hx⟩ := get_some hil
    have htl := earlT_len (l := l) (o := o) k
    refine gl_nil <| gx_then <| gc_seq <| gc_cond_t rfl <| gc_skip <| gx_then <| gc_seq <| gc_block <| gc_seq <| gc_region <| gl_op (op_rd rfl (rd_indexOld1 hO Try.underlying29 ty_3 rfl rfl (by omega) (by omega)) ?_)
    refine gl_op <| op_rd rfl (rd_load Try.underlying3 rfl rfl (ld_slN hO (get_natK hi))) <| gl_op <| op_rd rfl (rd_assign rfl) <| gl_nil <| gx_then <| gc_region <| gl_op <| op_rd rfl (rd_move rfl) <| gl_op <| op_rd rfl (rd_move rfl) <| gl_op <| op_rd rfl (rd_move rfl) <| gl_op <| op_rd rfl (rd_move rfl) <| gl_op <| op_rd rfl (rd_move rfl) ?_
    refine gl_op (op_call rfl (vf := []) (vc := []) rfl rfl Try.call41 (fun w1 ho1 => by
      have h9 := afterN_ok a c l hj (rowA (some b10)) l.length (earlT l o k) htl (fun t ht => Nat.le_trans (earlT_bd hj ho (by omega) t ht) (by decide)) i x hx w1 (hJ.at ho1) (by rw [htl]; exact ho1.rowSl 0 rfl)
      rw [htl] at h9
      exact h9) ?_)
    rintro _ _ ⟨rfl, rfl⟩
    refine gl_op (op_rd rfl (rd_indexRow1 0 rfl Try.underlying25 ty_2 rfl rfl (by omega) (by omega)) ?_)
    refine gl_op (op_storeRowE 0 ty_2 rfl rfl rfl rfl (by rw [List.length_map, htl]; omega) (earlT_st hi) (by rfl) ?_)
    refine gl_nil <| gx_block <| gx_then <| gc_region <| gl_op (op_rd rfl (by exact rd_addN (b := 1) rfl rfl (by omega)) ?_)
    refine gl_op <| op_rd rfl (rd_move rfl) <| gl_nil <| gx_then ?_
    exact gx_cut (k + 1) ⟨by omega, by omega⟩ ⟨rfl, rfl, rfl, rfl, rfl, trivial⟩ ⟨[0], by decide, rfl⟩
  refine gl_nil <| gx_then <| gc_seq <| gc_cond_f rfl <| gc_exit <| gx_then_exit <| gx_then_exit <| gx_block_exit <| gx_then <| gc_seq <| gc_region <| gl_op <| op_rd rfl (rd_move rfl) <| gl_op <| op_rd rfl (rd_assign rfl) <| gl_nil <| gx_then <| gc_ret <| gx_ret1 (.inl rfl) Try.results27 rfl [0] (by decide) ?_
  have hk9 : k = o.length := by omega
  subst hk9
  rw [earlT_all, earlC_eq hg ho]
  exact ⟨b10, rfl, rfl⟩
set_option maxRecDepth 100000 in
set_option maxHeartbeats 1000000 in
theorem Earliest_ok (a : Option Addr) (c : Nat) (l : List JI) (hle : JsLe l) (w0 : World) (hJ : JsIn a l w0 []) : Sp Try.prog 10 [.slice a l.length c] w0 [] (EarlR 2 l) := by
  refine spec_enter Try.func10 rfl Try.ntmps10 rfl (Own.refl _) ?_
  simp only [argEnv]
  refine gc_seq <| gc_region <| gl_op <| op_rd rfl (rd_assign rfl) <| gl_op <| op_rd rfl (rd_assign rfl) <| gl_nil <| gx_then <| gc_seq <| gc_seq <| gc_region <| gl_op <| op_rd rfl (rd_move rfl) <| gl_op (op_call rfl (vf := []) (vc := []) rfl rfl Try.call14 (fun w1 ho => Check_ok a c l hle w1 (hJ.at ho)) ?_)
  rintro _ _ ⟨rfl, rfl⟩
  refine gl_op <| op_rd rfl (rd_assign rfl) <| gl_nil <| gx_then <| gc_seq <| gc_region <| gl_op <| op_rd rfl (rd_move rfl) <| gl_op (op_rd rfl (rd_neq rfl rfl) (gk_dec (fun h10 => ?_) (fun h10 => ?_)))
  · refine gl_nil <| gx_then <| gc_cond_t rfl <| gc_seq <| gc_region <| gl_op <| op_rd rfl (rd_move rfl) <| gl_op <| op_rd rfl (rd_assign rfl) <| gl_op <| op_rd rfl (rd_assign rfl) <| gl_nil <| gx_then <| gc_ret <| gx_then_ret <| gx_ret2 (.inl rfl) Try.results10 rfl rfl [] (by decide) ?_
    exact .inl ⟨by omega, rfl, rfl⟩
  have hch : checkE l = 0 := by omega
  obtain ⟨n, rfl, hg, hn⟩ := goodJ_of hch
  have hN := JnIn.of hJ
  rw [List.length_map]
  have hj := hg.ok
  have hln := hj.n
  refine gl_nil <| gx_then <| gc_cond_f rfl <| gc_skip <| gx_then <| gc_seq <| gc_region <| gl_op <| op_rd rfl (rd_move rfl) <| gl_op (op_call rfl (vf := []) (vc := []) rfl rfl Try.call26 (fun w1 ho => order_ok a c n hj w1 (hN.at ho)) ?_)
  rintro _ _ ⟨o, r14, c14, rfl, rfl, hO⟩
  refine gl_op <| op_rd rfl (rd_move rfl) <| gl_op <| op_rd rfl (rd_extract rfl rfl) <| gl_op <| op_rd rfl (rd_extract rfl rfl) <| gl_op <| op_rd rfl (rd_assign rfl) <| gl_op <| op_rd rfl (rd_assign rfl) <| gl_nil <| gx_then <| gc_seq <| gc_region <| gl_op <| op_rd rfl (rd_move rfl) <| gl_op <| op_rd rfl (rd_move rfl) <| gl_op (op_call rfl (vf := []) (vc := []) rfl rfl Try.call27 (fun w1 ho => earliest_ok a c n hg w1 (hN.at ho) _ c14 o hO (ho.rowSl 0 rfl)) ?_)
  rintro _ _ ⟨b19, rfl, rfl⟩
  refine gl_op <| op_rd rfl (rd_assign rfl) <| gl_op <| op_rd rfl (rd_assign rfl) <| gl_nil <| gx_then <| gc_ret <| gx_ret2 (.inl rfl) Try.results10 rfl rfl [0] (by decide) ?_
  refine .inr ⟨hch, b19, ?_, ?_⟩
  · (rw [hn]; done)
  · (rw [hn]; rfl)
end Go.Proofs.Ytafmcflggikbfaa
namespace Go.Proofs.Ytafmcflggikbfaa
open Go.Gv
open Go.RowKit
open Go.Sn
open Go.Wk
open Sx
namespace Sx
def lz (l : List Jb) (t k : Nat) : List Nat := (List.range l.length).map fun q => if q < k then t - hr l q else 0
theorem lz_zero (l : List Jb) (t : Nat) : lz l t 0 = List.replicate l.length 0 := by
  unfold lz
  apply List.ext_getElem?
  intro q
  rw [List.getElem?_map, List.getElem?_replicate]
  by_cases h : q < l.length
  · rw [List.getElem?_range h, if_pos h]; rfl
  · rw [List.getElem?_eq_none (by simpa using h), if_neg h]; rfl
theorem lz_len (l : List Jb) (t k : Nat) : (lz l t k).length = l.length := by unfold lz; simp
theorem lz_all (l : List Jb) (t : Nat) : lz l t l.length = lat0 l t := by
  unfold lz lat0
  apply List.map_congr_left
  intro q hq
  rw [if_pos (List.mem_range.1 hq)]
theorem lz_st {l : List Jb} {t k : Nat} {x : Jb} (hx : l[k]? = some x) : ((lz l t k).map natV).set k (natV (t - x.hours)) = (lz l t (k + 1)).map natV := by
  have hk := (List.getElem?_eq_some_iff.1 hx).1
  rw [set_natL]
  congr 1
  apply List.ext_getElem?
  intro q
  rw [List.getElem?_set, lz_len]
  unfold lz
  rw [List.getElem?_map, List.getElem?_map]
  by_cases h : q < l.length
  · rw [List.getElem?_range h, Option.map_some, Option.map_some]
    by_cases e : k = q
    · subst e; simp [hk, hr_at hx]
    · rw [if_neg e]
      congr 1
      by_cases h2 : q < k
      · rw [if_pos h2, if_pos (by omega)]
      · rw [if_neg h2, if_neg (by omega)]
  · rw [List.getElem?_eq_none (by simpa using h)]
    rw [if_neg (by omega)]; rfl
theorem latJ_st {l : List Jb} {g : List Nat} {i k : Nat} {x z : Jb} {y : Nat × Nat} (hx : l[i]? = some x) (hy : x.after[k]? = some y) (hz : l[y.1]? = some z) : ((latJ l g i k).map natV).set y.1 (natV (min ((latJ l g i k).getD y.1 0) ((latJ l g i k).getD i 0 - y.2 - z.hours))) = (latJ l g i (k + 1)).map natV := by
  rw [latJ_next hx hy, set_natL]
  unfold latP
  rw [hr_at hz]
theorem after_mem {l : List Jb} {i k : Nat} {x : Jb} {y : Nat × Nat} (hx : l[i]? = some x) (hy : x.after[k]? = some y) : y ∈ (jb l i).after := by rw [jb_at hx]; exact List.mem_of_getElem? hy
def critI (l : List Jb) (k : Nat) : List Nat := (List.range k).filter fun i => decide ((earlC l).getD i 0 = (latC l).getD i 0)
theorem critI_yes {l : List Jb} {k : Nat} (h : (earlC l).getD k 0 = (latC l).getD k 0) : critI l (k + 1) = critI l k ++ [k] := by
  unfold critI; rw [List.range_succ, List.filter_append]; simp only [List.filter_cons, decide_eq_true h, if_true, List.filter_nil]
theorem critI_no {l : List Jb} {k : Nat} (h : ¬ (earlC l).getD k 0 = (latC l).getD k 0) : critI l (k + 1) = critI l k := by
  unfold critI; rw [List.range_succ, List.filter_append]; simp only [List.filter_cons, decide_eq_false h, Bool.false_eq_true, if_false, List.filter_nil, List.append_nil]
theorem critI_len (l : List Jb) (k : Nat) : (critI l k).length ≤ k := by
  unfold critI
  exact Nat.le_trans (List.length_filter_le _ _) (by simp)
theorem latC_LB {l : List Jb} (hg : GoodJ l) : LB l (latC l) := LB.latR hg _
def CritR (t : TypeId) (l : List JI) (v : Value) (L : List HL) : Prop :=
  (checkE l ≠ 0 ∧ v = .tuple #[.slice none 0 0, .int .i64 0, .int .i64 (checkE l)] ∧ L = []) ∨
  (checkE l = 0 ∧ ∃ (r : Option Nat) (c : Nat), v = .tuple #[.slice (rowA r) (critC (nOf l)).length c, natV (endC (nOf l)), .int .i64 0] ∧ L = [.row t 1 r (critC (nOf l)).length c ((critC (nOf l)).map natV)])
end Sx
open Sx
end Go.Proofs.Ytafmcflggikbfaa
namespace Go.Proofs.Ytafmcflggikbfaa
open Go.Gv
open Go.RowKit
open Go.Sn
open Go.Wk
open Sx
namespace Sx
theorem rev_at {o : List Nat} {j : Nat} (hj : j < o.length) : (o.map natV)[((o.length : Int) - 1 - (j : Int)).toNat]? = some (natV (o.reverse.getD j 0)) := by
  have e : ((o.length : Int) - 1 - (j : Int)).toNat = o.length - 1 - j := by omega
  rw [e, get_natL (by omega), List.getD_eq_getElem?_getD, List.getD_eq_getElem?_getD, List.getElem?_reverse hj]
def latW (l : List Jb) (o : List Nat) (t i : Nat) : List Nat := (o.reverse.take i).foldl (latS l) (lat0 l t)
theorem latW_zero (l : List Jb) (o : List Nat) (t : Nat) : latW l o t 0 = lat0 l t := rfl
theorem latW_next {l : List Jb} {o : List Nat} {t i x : Nat} (h : o.reverse[i]? = some x) : latW l o t (i + 1) = latS l (latW l o t i) x := by
  unfold latW; rw [take_at h, List.foldl_append]; rfl
theorem latW_all {l : List Jb} (hg : GoodJ l) {o : List Nat} (ho : Ord l.length (preOf l) o) : latW l o (endC l) o.length = latC l := by
  unfold latW
  rw [List.take_of_length_le (by rw [List.length_reverse]; exact Nat.le_refl _)]
  exact latC_eq hg ho
theorem latW_LB {l : List Jb} (hg : GoodJ l) {o : List Nat} (ho : Ord l.length (preOf l) o) (i : Nat) : LB l (latW l o (endC l) i) := LB.fold hg _ _ (fun j hj => ho.lt j (List.mem_reverse.1 (List.mem_of_mem_take hj))) (LB.zero hg)
end Sx
open Sx
set_option maxRecDepth 100000 in
set_option maxHeartbeats 1000000 in
theorem back_ok (r : Option Nat) (oc : Nat) (o : List Nat) (w0 : World) : Sp Try.prog 30 [.slice (rowA r) o.length oc] w0 [] (fun v L => ∃ bx, v = .func (.func 48) #[] #[.pointer (some ⟨bx, 0, none⟩)] ∧ L = [.blk bx [.slice (rowA r) o.length oc] 29]) := by
  refine spec_enter Try.func30 rfl Try.ntmps30 rfl (Own.refl _) ?_
  simp only [argEnv]
  refine gc_seq <| gc_region <| gl_op (op_box rfl rfl rfl (fun b1 => ?_))
  refine gl_op <| op_rd rfl (rd_assign rfl) <| gl_nil <| gx_then <| gc_seq <| gc_region <| gl_op <| op_rd rfl (rd_makeFunc (fs := []) (cs := [.tmp 1]) rfl rfl) <| gl_op <| op_rd rfl (rd_assign rfl) <| gl_nil <| gx_then <| gc_ret <| gx_ret1 (.inl rfl) Try.results30 rfl [0] (by decide) ?_
  exact ⟨b1, rfl, rfl⟩
set_option maxRecDepth 100000 in
set_option maxHeartbeats 1000000 in
theorem backIt_ok (r : Option Nat) (oc : Nat) (o : List Nat) (hol : o.length ≤ 1000) (bx lb : Nat) (J Jx : Nat → List HL → Prop) (hG : ∀ i L, J i L → HL.blk bx [.slice (rowA r) o.length oc] 29 ∈ L ∧ HL.row 3 1 r o.length oc (o.map natV) ∈ L) (w1 : World) (L : List HL) (hY : YOk Try.prog lb o.length (fun i => [.int .i64 ((o.length : Int) - 1 - (i : Int)), natV (o.reverse.getD i 0)]) J Jx w1 (L.filterMap HL.block)) (h0 : J 0 L) (ho : Own w1 (L.filterMap HL.block) w1 L) : Sp Try.prog 48 [.func (.yield lb) #[] #[], .pointer (some ⟨bx, 0, none⟩)] w1 (L.filterMap HL.block) (fun _ L2 => J o.length L2 ∨ ∃ i, i < o.length ∧ Jx i L2) := by
  refine spec_enterM Try.func48 rfl Try.ntmps48 rfl ho ?_
  simp only [argEnv]
  refine rc_seq <| rc_region <| rl_op (by nofun) (op_rd rfl (rd_load Try.underlying29 rfl rfl (ld_mem (hG _ _ h0).1 rfl)) ?_)
  refine rl_op (by nofun) (op_rd rfl (rd_lenSlice Try.underlying29 rfl) ?_)
  refine rl_op (by nofun) (op_rd rfl (rd_sub rfl rfl (by omega) (by omega)) ?_)
  refine rl_op (by nofun) (op_rd rfl (rd_assign rfl) ?_)
  refine rl_nil <| gx_then <| rc_block ?_
  rw [show (o.length : Int) - 1 = (o.length : Int) - 1 - ((0 : Nat) : Int) by omega]
  refine rc_loopF (ι := Nat × List HL) [(0, _), (1, _)] [] (fun q => q.1 ≤ o.length ∧ J q.1 q.2) (fun q Fr0 => ((3, .int .i64 ((o.length : Int) - 1 - (q.1 : Int))) :: Fr0)) (fun q Fr0 => (Fr0 ++ q.2)) (fun q => o.length - q.1) (0, L) (⟨Nat.zero_le _, h0⟩) ⟨rfl, rfl, rfl, trivial⟩ (sub_tail (A := []) (B := []) (T := L) [] 0 (by decide) (by decide) rfl rfl) ?_
  rintro ⟨j, T⟩ ⟨hj, hJ⟩
  simp only at hj hJ ⊢
  refine rc_seq <| rc_seq <| rc_region <| rl_op (by nofun) (op_rd rfl (rd_move rfl) ?_)
  refine rl_op (by nofun) (op_rd rfl (rd_geq rfl rfl) (gk_dec (fun h8 => ?_) (fun h8 => ?_)))
  · refine rl_nil <| gx_then <| rc_cond_t rfl <| rc_skip <| gx_then <| rc_seq <| rc_block <| rc_seq <| rc_region <| rl_op (by nofun) (op_rd rfl (rd_move rfl) ?_)
    refine rl_op (by nofun) (op_rd rfl (rd_move rfl) ?_)
    refine rl_op (by nofun) (op_rd rfl (rd_load Try.underlying29 rfl rfl (ld_mem (hG _ _ hJ).1 rfl)) ?_)
    refine rl_op (by nofun) (op_rd rfl (rd_move rfl) ?_)
    refine rl_op (by nofun) (op_rd rfl (rd_indexMem (hG _ _ hJ).2 Try.underlying29 ty_3 rfl rfl (by omega) (by omega)) ?_)
    refine rl_op (by nofun) (op_rd rfl (rd_load Try.underlying3 rfl rfl (ld_memRow (hG _ _ hJ).2 (by rw [Nat.mul_one]; exact rev_at (j := j) (by omega)))) ?_)
    refine rl_opI (op_yield [] T hY (by omega) hJ rfl rfl rfl rfl (fun T2 hJ2 => ?_) (fun T2 hJ2 => ?_))
    · refine rl_op (by nofun) (op_rd rfl (rd_not rfl) ?_)
      refine rl_nil <| gx_then <| rc_cond_f rfl <| rc_skip <| gx_block <| gx_then <| rc_region <| rl_op (by nofun) (op_rd rfl (rd_move rfl) ?_)
      refine rl_op (by nofun) (op_rd rfl (rd_sub rfl rfl (by omega) (by omega)) ?_)
      refine rl_op (by nofun) (op_rd rfl (rd_assign rfl) ?_)
      refine rl_nil <| gx_then ?_
      rw [show (o.length : Int) - 1 - (j : Int) - 1 = (o.length : Int) - 1 - ((j + 1 : Nat) : Int) by omega]
      exact gx_cut ((j + 1, T2)) ⟨⟨by simp only; omega, hJ2⟩, by simp only; omega⟩ ⟨rfl, rfl, rfl, trivial⟩ (sub_tail (A := []) (B := []) (T := T2) [] 0 (by decide) (by decide) rfl rfl)
    refine rl_op (by nofun) (op_rd rfl (rd_not rfl) ?_)
    refine rl_nil <| gx_then <| rc_cond_t rfl <| rc_ret <| gx_block_ret <| gx_then_ret <| gx_then_ret <| gx_block_ret <| gx_retM0 [] (.inl rfl) Try.results48 (Sub.refl' _) ?_
    exact .inr ⟨j, by omega, hJ2⟩
  refine rl_nil <| gx_then <| rc_cond_f rfl <| rc_exit <| gx_then_exit <| gx_then_exit <| gx_block_exit <| gx_retM0 [] (.inr rfl) Try.results48 (Sub.refl' _) ?_
  have hj9 : j = o.length := by omega
  exact .inl (hj9 ▸ hJ)
end Go.Proofs.Ytafmcflggikbfaa
namespace Go.Proofs.Ytafmcflggikbfaa
open Go.Gv
open Go.RowKit
open Go.Sn
open Go.Wk
open Sx
set_option maxRecDepth 100000 in
set_option maxHeartbeats 1000000 in
theorem Critical_ok (a : Option Addr) (c : Nat) (l : List JI) (hle : JsLe l) (w0 : World) (hJ : JsIn a l w0 []) : Sp Try.prog 12 [.slice a l.length c] w0 [] (CritR 3 l) := by
  refine spec_enterM Try.func12 rfl Try.ntmps12 rfl (Own.refl _) ?_
  simp only [argEnv]
  refine rc_seq <| rc_region <| rl_op (by nofun) (op_box rfl rfl rfl (fun b1 => ?_))
  refine rl_op (by nofun) (op_rd rfl (rd_assign rfl) ?_)
  refine rl_op (by nofun) (op_rd rfl (rd_assign rfl) ?_)
  refine rl_op (by nofun) (op_rd rfl (rd_assign rfl) ?_)
  refine rl_nil <| gx_then <| rc_seq <| rc_seq <| rc_region <| rl_op (by nofun) (op_rd rfl (rd_load Try.underlying22 rfl rfl (by exact ld_blk 0 rfl rfl)) ?_)
  refine rl_op (by nofun) (op_call rfl (vf := []) (vc := []) rfl rfl Try.call14 (fun w1 ho => Check_ok a c l hle w1 (hJ.at ho)) ?_)
  rintro _ _ ⟨rfl, rfl⟩
  refine rl_op (by nofun) (op_rd rfl (rd_assign rfl) ?_)
  refine rl_nil <| gx_then <| rc_seq <| rc_region <| rl_op (by nofun) (op_rd rfl (rd_move rfl) ?_)
  refine rl_op (by nofun) (op_rd rfl (rd_neq rfl rfl) (gk_dec (fun h22 => ?_) (fun h22 => ?_)))
  · refine rl_nil <| gx_then <| rc_cond_t rfl <| rc_seq <| rc_region <| rl_op (by nofun) (op_rd rfl (rd_move rfl) ?_)
    refine rl_op (by nofun) (op_rd rfl (rd_assign rfl) ?_)
    refine rl_op (by nofun) (op_rd rfl (rd_assign rfl) ?_)
    refine rl_op (by nofun) (op_rd rfl (rd_assign rfl) ?_)
    refine rl_nil <| gx_then <| rc_ret <| gx_then_ret <| gx_retM3 [] (.inl rfl) Try.results12 rfl rfl rfl ⟨[], by decide, rfl⟩ ?_
    exact .inl ⟨by omega, rfl, rfl⟩
  have hch : checkE l = 0 := by omega
  obtain ⟨n, rfl, hg, hn⟩ := goodJ_of hch
  have hN := JnIn.of hJ
  rw [List.length_map]
  have hj := hg.ok
  have hln := hj.n
  refine rl_nil <| gx_then <| rc_cond_f rfl <| rc_skip <| gx_then <| rc_seq <| rc_region <| rl_op (by nofun) (op_rd rfl (rd_load Try.underlying22 rfl rfl (by exact ld_blk 0 rfl rfl)) ?_)
  refine rl_op (by nofun) (op_call rfl (vf := []) (vc := []) rfl rfl Try.call26 (fun w1 ho => order_ok a c n hj w1 (hN.at ho)) ?_)
  rintro _ _ ⟨o, r26, c26, rfl, rfl, hO⟩
  have hol := nodup_len hO.nodup hO.lt
  refine rl_op (by nofun) (op_rd rfl (rd_move rfl) ?_)
  refine rl_op (by nofun) (op_rd rfl (rd_extract rfl rfl) ?_)
  refine rl_op (by nofun) (op_rd rfl (rd_extract rfl rfl) ?_)
  refine rl_op (by nofun) (op_rd rfl (rd_assign rfl) ?_)
  refine rl_op (by nofun) (op_rd rfl (rd_assign rfl) ?_)
  refine rl_nil <| gx_then <| rc_seq <| rc_region <| rl_op (by nofun) (op_rd rfl (rd_load Try.underlying22 rfl rfl (by exact ld_blk 1 rfl rfl)) ?_)
  refine rl_op (by nofun) (op_rd rfl (rd_move rfl) ?_)
  refine rl_op (by nofun) (op_call rfl (vf := []) (vc := []) rfl rfl Try.call27 (fun w1 ho => earliest_ok a c n hg w1 (hN.at ho) _ c26 o hO (ho.rowSl 0 rfl)) ?_)
  rintro _ _ ⟨b31, rfl, rfl⟩
  refine rl_op (by nofun) (op_rd rfl (rd_assign rfl) ?_)
  refine rl_nil <| gx_then <| rc_seq <| rc_region <| rl_op (by nofun) (op_rd rfl (rd_load Try.underlying22 rfl rfl (by exact ld_blk 2 rfl rfl)) ?_)
  refine rl_op (by nofun) (op_rd rfl (rd_move rfl) ?_)
  refine rl_op (by nofun) (op_call rfl (vf := []) (vc := []) rfl rfl Try.call29 (fun w1 ho1 => by
    have h9 := end_ok a c n hj (rowA (some b31)) n.length (earlC n) (earlC_len n) (fun t ht => Nat.le_trans (bd_of (earlC_bd hg) t ht) (by decide)) w1 (hN.at ho1) (by rw [earlC_len]; exact ho1.rowSl 0 rfl)
    rw [earlC_len] at h9
    exact h9) ?_)
  rintro _ _ ⟨rfl, rfl⟩
  rw [show endF n (earlC n) = endC n from rfl]
  have heb := endC_bd hg
  have hEl := earlC_len n
  refine rl_op (by nofun) (op_rd rfl (rd_assign rfl) ?_)
  refine rl_nil <| gx_then <| rc_seq <| rc_region <| rl_op (by nofun) (op_rd rfl (rd_load Try.underlying22 rfl rfl (by exact ld_blk 2 rfl rfl)) ?_)
  refine rl_op (by nofun) (op_rd rfl (rd_lenSlice Try.underlying22 rfl) ?_)
  refine rl_op (by nofun) (op_makeSlice (n.length) Try.underlying25 ty_2 rfl rfl rfl (by omega) (by omega) (by omega) (by omega) (fun b37 => ?_))
  refine rl_op (by nofun) (op_alloc ty_25 rfl rfl (fun b10 => ?_))
  refine rl_op (by nofun) (op_store 0 ty_25 rfl rfl rfl rfl rfl (by rfl) (by rfl) ?_)
  refine rl_nil <| gx_then <| rc_seq <| rc_seq ?_
  rw [made_one _ rfl, show List.replicate n.length (Value.int IntKind.i64 0) = (lz n (endC n) 0).map natV by rw [lz_zero]; simp]
  refine rc_region <| rl_op (by nofun) (op_rd rfl (rd_load Try.underlying22 rfl rfl (by exact ld_blk 4 rfl rfl)) ?_)
  refine rl_op (by nofun) (op_rd rfl (rd_lenSlice Try.underlying22 rfl) ?_)
  refine rl_op (by nofun) (op_rd rfl (rd_move rfl) ?_)
  refine rl_nil <| gx_then <| rc_block <| rc_loopF (ι := Nat) [(1, _), (6, _), (8, _), (9, _), (10, _), (38, _), (39, _)] [_, _, _, _] (fun k => k ≤ n.length) (fun k Fr0 => ((40, natV k) :: Fr0)) (fun k Fr0 => (.row 2 1 (some b37) n.length n.length ((lz n (endC n) k).map natV) :: Fr0)) (fun k => n.length - k) 0 (Nat.zero_le _) ⟨rfl, rfl, rfl, rfl, rfl, rfl, rfl, rfl, trivial⟩ ⟨[1, 0, 2, 3, 4], by decide, rfl⟩ ?_
  rintro k hk
  refine rc_seq <| rc_region <| rl_op (by nofun) (op_rd rfl (rd_lss rfl rfl) (gk_dec (fun h41 => ?_) (fun h41 => ?_)))
  · obtain ⟨x, hx⟩ := get_some (show k < n.length by omega)
    have hxh := job_le hj hx
    have hxe : x.hours ≤ endC n := by have := le_endF (l := n) (g := earlC n) (i := k) (by omega); rw [hr_at hx] at this; unfold endC; omega
    refine rl_nil <| gx_then <| rc_seq <| rc_cond_t rfl <| rc_skip <| gx_then <| rc_seq <| rc_block <| rc_seq <| rc_region <| rl_op (by nofun) (op_rd rfl (rd_move rfl) ?_)
    refine rl_op (by nofun) (op_rd rfl (rd_indexOld hN.t Try.underlying22 ty_48 rfl rfl (by omega) (by omega)) ?_)
    refine rl_op (by nofun) (op_rd rfl (rd_loadAgg Try.underlying48 rfl ty_48 rfl (cs_slN hN.t (flat_drop_get Jb.cells 4 (fun _ => rfl) hx)) rfl) ?_)
    refine rl_op (by nofun) (op_alloc ty_48 rfl rfl (fun b12 => ?_))
    refine rl_op (by nofun) (op_rd rfl (rd_assign rfl) ?_)
    refine rl_op (by nofun) (op_storeAgg 0 ty_48 rfl rfl rfl rfl rfl rfl (by rfl) ?_)
    refine rl_nil <| gx_then <| rc_region <| rl_op (by nofun) (op_rd rfl (rd_load Try.underlying25 rfl rfl (by exact ld_blk 2 rfl rfl)) ?_)
    refine rl_op (by nofun) (op_rd rfl (rd_move rfl) ?_)
    refine rl_op (by nofun) (op_rd rfl (rd_move rfl) ?_)
    refine rl_op (by nofun) (op_rd rfl (rd_fieldAddr rfl (fa_48_2 _)) ?_)
    refine rl_op (by nofun) (op_rd rfl (rd_load Try.underlying2 rfl rfl (by exact ld_blk 0 rfl rfl)) ?_)
    refine rl_op (by nofun) (op_rd rfl (rd_subN rfl rfl (by omega) (by omega)) ?_)
    refine rl_op (by nofun) (op_rd rfl (rd_indexRow1 1 rfl Try.underlying25 ty_2 rfl rfl (by omega) (by omega)) ?_)
    refine rl_op (by nofun) (op_storeRowE 1 ty_2 rfl rfl rfl rfl (by rw [List.length_map, lz_len]; omega) (lz_st hx) (by rfl) ?_)
    refine rl_nil <| gx_block <| gx_then <| rc_region <| rl_op (by nofun) (op_rd rfl (by exact rd_addN (b := 1) rfl rfl (by omega)) ?_)
    refine rl_op (by nofun) (op_rd rfl (rd_move rfl) ?_)
    refine rl_nil <| gx_then ?_
    exact gx_cut (k + 1) ⟨by omega, by omega⟩ ⟨rfl, rfl, rfl, rfl, rfl, rfl, rfl, rfl, trivial⟩ ⟨[1, 2, 3, 4, 5], by decide, rfl⟩
  have hk9 : k = n.length := by omega
  subst hk9
  rw [lz_all, ← latW_zero n o (endC n)]
  refine rl_nil <| gx_then <| rc_seq <| rc_cond_f rfl <| rc_exit <| gx_then_exit <| gx_then_exit <| gx_block_exit <| gx_then <| rc_seq <| rc_seq <| rc_region <| rl_op (by nofun) (op_rd rfl (rd_move rfl) ?_)
  refine rl_op (by nofun) (op_call rfl (vf := []) (vc := []) rfl rfl Try.call30 (fun w1 ho => back_ok r26 c26 o w1) ?_)
  rintro _ _ ⟨bx, rfl, rfl⟩
  refine rl_nil <| gx_then <| rc_block <| gk_env [(1, _), (6, _), (8, _), (9, _), (10, _), (38, _), (39, _), (40, _), (41, _), (53, _), (54, _)] ⟨rfl, rfl, rfl, rfl, rfl, rfl, rfl, rfl, rfl, rfl, rfl, trivial⟩ ?_
  refine rc_rangeF2 (β := Unit) (N := o.length) (xs := fun i => natV (o.reverse.getD i 0)) (ys := fun i => .int .i64 ((o.length : Int) - 1 - (i : Int))) (gf := 48) (caps := [.pointer (some ⟨bx, 0, none⟩)]) (fun i _ => [(14, natV (o.reverse.getD i 0))]) (fun i _ => []) rfl Try.call48 rfl rfl (fun i L => L = [.blk bx [.slice (rowA r26) o.length c26] 29, .row 2 1 (some b37) n.length n.length ((latW n o (endC n) i).map natV), .blk b10 [.slice (rowA (some b37)) n.length n.length] 25, .row 2 1 (some b31) n.length n.length ((earlC n).map natV), .row 3 1 r26 o.length c26 (o.map natV), .blk b1 [.slice a n.length c] 22]) (fun _ _ _ => False) (fun L => HL.blk bx [.slice (rowA r26) o.length c26] 29 ∈ L ∧ HL.row 3 1 r26 o.length c26 (o.map natV) ∈ L) (fun i L hd h => by
    rcases h with rfl | ⟨c, h⟩
    · exact ⟨List.mem_append_right _ (by simp), List.mem_append_right _ (by simp)⟩
    · exact h.elim) (rfl) (fun lb J Jx hG w1 L hY hJ hO => backIt_ok r26 c26 o (by omega) bx lb J Jx hG w1 L hY hJ hO.self) ?_ ?_ ?_ ?_
  · intro i lb w1 S1 L1 K1 Q1 hk1
    refine rc_region <| rl_op (by nofun) (op_rd rfl (rd_assign rfl) ?_)
    refine rl_nil <| gx_then ?_
    exact gk_env _ (by exact ⟨rfl, rfl, rfl, rfl, rfl, rfl, rfl, rfl, rfl, rfl, rfl, rfl, trivial⟩) (hk1 ())
  · intro i hi L hI lb D rec w1 S1 _ rec9 hO9 hS9
    subst hI
    have hN1 := hN.atS (Sc := S1) hO9 (by rw [hS9]; exact own_new hO9)
    obtain ⟨i1, hi1⟩ := get_some (show i < o.reverse.length by rw [List.length_reverse]; exact hi)
    have hnn : o.reverse.getD i 0 = i1 := getD_some hi1
    have hil := hO.lt i1 (List.mem_reverse.1 (List.mem_of_getElem? hi1))
    obtain ⟨x, hx⟩ := get_some hil
    have hxl := hj.lags x (List.mem_of_getElem? hx)
    have hB0 := latW_LB hg hO i
    rw [hnn, ← latJ_zero n (latW n o (endC n) i) i1]
    refine rc_block <| rc_seq <| rc_region <| rl_op (by nofun) (op_rd rfl (rd_load Try.underlying22 rfl rfl (by exact ld_blk 7 rfl rfl)) ?_)
    refine rl_op (by nofun) (op_rd rfl (rd_move rfl) ?_)
    refine rl_op (by nofun) (op_rd rfl (rd_indexOld hN1.t Try.underlying22 ty_48 rfl rfl (by omega) (by omega)) ?_)
    refine rl_op (by nofun) (op_rd rfl (rd_fieldAddr rfl (fa_48_3 _)) ?_)
    refine rl_op (by nofun) (op_rd rfl (rd_load Try.underlying46 rfl rfl (ld_slf hN1.t (get_flat Jb.cells 4 (fun _ => rfl) hx (j := 3) (by decide) rfl))) ?_)
    refine rl_op (by nofun) (op_rd rfl (rd_lenSlice Try.underlying46 rfl) ?_)
    refine rl_op (by nofun) (op_rd rfl (rd_move rfl) ?_)
    refine rl_nil <| gx_then <| rc_block <| rc_loopF (ι := Nat) [(1, _), (10, _), (14, _), (61, _), (62, _)] [_, _, _, _, _, _, _] (fun k => k ≤ x.after.length) (fun k Fr0 => ((63, natV k) :: Fr0)) (fun k Fr0 => (.row 2 1 (some b37) n.length n.length ((latJ n (latW n o (endC n) i) i1 k).map natV) :: Fr0)) (fun k => x.after.length - k) 0 (Nat.zero_le _) ⟨rfl, rfl, rfl, rfl, rfl, rfl, trivial⟩ ⟨[3, 0, 1, 2, 4, 5, 6, 7], by decide, rfl⟩ ?_
    rintro k hk3
    refine rc_seq <| rc_region <| rl_op (by nofun) (op_rd rfl (rd_lss rfl rfl) (gk_dec (fun h64 => ?_) (fun h64 => ?_)))
    · obtain ⟨y, hy⟩ := get_some (show k < x.after.length by omega)
      have hyl := lag_lt hj hx hy
      obtain ⟨z, hz⟩ := get_some (show y.1 < n.length by omega)
      have hB := hB0.latJ hg (i := i1) (k := k) (by omega)
      have hBl := hB.len
      have hpu := (hB.push hg (show i1 < n.length by omega) (after_mem hx hy)).2
      rw [hr_at hz] at hpu
      have hBi := hB.le i1 (by omega)
      have hBy := hB.le y.1 (by omega)
      refine rl_nil <| gx_then <| rc_seq <| rc_cond_t rfl <| rc_skip <| gx_then <| rc_seq <| rc_block <| rc_seq <| rc_region <| rl_op (by nofun) (op_rd rfl (rd_indexOld (hN1.r x (List.mem_of_getElem? hx)) Try.underlying46 ty_50 rfl rfl (by omega) (by omega)) ?_)
      refine rl_op (by nofun) (op_rd rfl (rd_loadAgg Try.underlying50 rfl ty_50 rfl (cs_slN (hN1.r x (List.mem_of_getElem? hx)) (flat_drop_get lagN 2 (fun _ => rfl) hy)) rfl) ?_)
      refine rl_op (by nofun) (op_alloc ty_50 rfl rfl (fun b16 => ?_))
      refine rl_op (by nofun) (op_storeAgg 0 ty_50 rfl rfl rfl rfl rfl rfl (by rfl) ?_)
      refine rl_nil <| gx_then <| rc_drawP [0, 1, 2, 3, 4, 5, 6, 7, 8] false 24 rfl rfl <| ga_first 0 (bm 25 1) rfl rfl rfl rfl (by kernel_rfl) (by kernel_rfl) ⟨[0, 1, 2, 3, 4, 5, 6, 7, 8], by decide, rfl⟩ (qt_rd (rd_load Try.underlying25 rfl rfl (by exact ld_blk 5 rfl rfl))) ?_
      refine ga_first 1 (bm 25 3) rfl rfl rfl rfl (by kernel_rfl) (by kernel_rfl) ⟨[0, 1, 2, 3, 4, 5, 6, 7, 8], by decide, rfl⟩ (qt_rd (rd_fieldAddr rfl (fa_50_0 _))) ?_
      refine ga_first 2 (bm 25 7) rfl rfl rfl rfl (by kernel_rfl) (by kernel_rfl) ⟨[0, 1, 2, 3, 4, 5, 6, 7, 8], by decide, rfl⟩ (qt_rd (rd_load Try.underlying3 rfl rfl (by exact ld_blk 0 rfl rfl))) ?_
      refine ga_first 3 (bm 25 15) rfl rfl rfl rfl (by kernel_rfl) (by kernel_rfl) ⟨[0, 1, 2, 3, 4, 5, 6, 7, 8], by decide, rfl⟩ (qt_rd (rd_load Try.underlying25 rfl rfl (by exact ld_blk 5 rfl rfl))) ?_
      refine ga_first 4 (bm 25 31) rfl rfl rfl rfl (by kernel_rfl) (by kernel_rfl) ⟨[0, 1, 2, 3, 4, 5, 6, 7, 8], by decide, rfl⟩ (qt_rd (rd_fieldAddr rfl (fa_50_0 _))) ?_
      refine ga_first 5 (bm 25 63) rfl rfl rfl rfl (by kernel_rfl) (by kernel_rfl) ⟨[0, 1, 2, 3, 4, 5, 6, 7, 8], by decide, rfl⟩ (qt_rd (rd_load Try.underlying3 rfl rfl (by exact ld_blk 0 rfl rfl))) ?_
      refine ga_first 6 (bm 25 127) rfl rfl rfl rfl (by kernel_rfl) (by kernel_rfl) ⟨[0, 1, 2, 3, 4, 5, 6, 7, 8], by decide, rfl⟩ (qt_rd (rd_indexRow1 1 rfl Try.underlying25 ty_2 rfl rfl (by omega) (by omega))) ?_
      refine ga_first 7 (bm 25 255) rfl rfl rfl rfl (by kernel_rfl) (by kernel_rfl) ⟨[0, 1, 2, 3, 4, 5, 6, 7, 8], by decide, rfl⟩ (qt_rd (rd_load Try.underlying2 rfl rfl (ld_row 1 rfl (get_natL (p := y.1) (by omega))))) ?_
      refine ga_first 8 (bm 25 511) rfl rfl rfl rfl (by kernel_rfl) (by kernel_rfl) ⟨[0, 1, 2, 3, 4, 5, 6, 7, 8], by decide, rfl⟩ (qt_rd (rd_load Try.underlying25 rfl rfl (by exact ld_blk 5 rfl rfl))) ?_
      refine ga_first 9 (bm 25 1023) rfl rfl rfl rfl (by kernel_rfl) (by kernel_rfl) ⟨[0, 1, 2, 3, 4, 5, 6, 7, 8], by decide, rfl⟩ (qt_rd (rd_move rfl)) ?_
      refine ga_first 10 (bm 25 2047) rfl rfl rfl rfl (by kernel_rfl) (by kernel_rfl) ⟨[0, 1, 2, 3, 4, 5, 6, 7, 8], by decide, rfl⟩ (qt_rd (rd_indexRow1 1 rfl Try.underlying25 ty_2 rfl rfl (by omega) (by omega))) ?_
      refine ga_first 11 (bm 25 4095) rfl rfl rfl rfl (by kernel_rfl) (by kernel_rfl) ⟨[0, 1, 2, 3, 4, 5, 6, 7, 8], by decide, rfl⟩ (qt_rd (rd_load Try.underlying2 rfl rfl (ld_row 1 rfl (get_natL (p := i1) (by omega))))) ?_
      refine ga_first 12 (bm 25 8191) rfl rfl rfl rfl (by kernel_rfl) (by kernel_rfl) ⟨[0, 1, 2, 3, 4, 5, 6, 7, 8], by decide, rfl⟩ (qt_rd (rd_fieldAddr rfl (fa_50_1 _))) ?_
      refine ga_first 13 (bm 25 16383) rfl rfl rfl rfl (by kernel_rfl) (by kernel_rfl) ⟨[0, 1, 2, 3, 4, 5, 6, 7, 8], by decide, rfl⟩ (qt_rd (rd_load Try.underlying2 rfl rfl (by exact ld_blk 0 rfl rfl))) ?_
      refine ga_first 14 (bm 25 32767) rfl rfl rfl rfl (by kernel_rfl) (by kernel_rfl) ⟨[0, 1, 2, 3, 4, 5, 6, 7, 8], by decide, rfl⟩ (qt_rd (rd_subN rfl rfl (by omega) (by omega))) ?_
      refine ga_first 15 (bm 25 65535) rfl rfl rfl rfl (by kernel_rfl) (by kernel_rfl) ⟨[0, 1, 2, 3, 4, 5, 6, 7, 8], by decide, rfl⟩ (qt_rd (rd_load Try.underlying22 rfl rfl (by exact ld_blk 8 rfl rfl))) ?_
      refine ga_first 16 (bm 25 131071) rfl rfl rfl rfl (by kernel_rfl) (by kernel_rfl) ⟨[0, 1, 2, 3, 4, 5, 6, 7, 8], by decide, rfl⟩ (qt_rd (rd_fieldAddr rfl (fa_50_0 _))) ?_
      refine ga_first 17 (bm 25 262143) rfl rfl rfl rfl (by kernel_rfl) (by kernel_rfl) ⟨[0, 1, 2, 3, 4, 5, 6, 7, 8], by decide, rfl⟩ (qt_rd (rd_load Try.underlying3 rfl rfl (by exact ld_blk 0 rfl rfl))) ?_
      refine ga_first 18 (bm 25 524287) rfl rfl rfl rfl (by kernel_rfl) (by kernel_rfl) ⟨[0, 1, 2, 3, 4, 5, 6, 7, 8], by decide, rfl⟩ (qt_rd (rd_indexOld hN1.t Try.underlying22 ty_48 rfl rfl (by omega) (by omega))) ?_
      refine ga_first 19 (bm 25 1048575) rfl rfl rfl rfl (by kernel_rfl) (by kernel_rfl) ⟨[0, 1, 2, 3, 4, 5, 6, 7, 8], by decide, rfl⟩ (qt_rd (rd_fieldAddr rfl (fa_48_2 _))) ?_
      refine ga_first 20 (bm 25 2097151) rfl rfl rfl rfl (by kernel_rfl) (by kernel_rfl) ⟨[0, 1, 2, 3, 4, 5, 6, 7, 8], by decide, rfl⟩ (qt_rd (rd_load Try.underlying2 rfl rfl (ld_slf hN1.t (get_flat Jb.cells 4 (fun _ => rfl) hz (j := 2) (by decide) rfl)))) ?_
      refine ga_first 21 (bm 25 4194303) rfl rfl rfl rfl (by kernel_rfl) (by kernel_rfl) ⟨[0, 1, 2, 3, 4, 5, 6, 7, 8], by decide, rfl⟩ (qt_rd (rd_subN rfl rfl (by omega) (by omega))) ?_
      refine ga_first 22 (bm 25 8388607) rfl rfl rfl rfl (by kernel_rfl) (by kernel_rfl) ⟨[0, 1, 2, 3, 4, 5, 6, 7, 8], by decide, rfl⟩ (qt_rd (rd_min2N rfl rfl)) ?_
      refine ga_first 23 (bm 25 16777215) rfl rfl rfl rfl (by kernel_rfl) (by kernel_rfl) ⟨[0, 1, 2, 3, 4, 5, 6, 7, 8], by decide, rfl⟩ (qt_rd (rd_indexRow1 1 rfl Try.underlying25 ty_2 rfl rfl (by omega) (by omega))) ?_
      refine ga_only 24 (bm 25 33554431) rfl rfl (by kernel_rfl) (by kernel_rfl) (.inr ⟨[0, 1, 2, 3, 4, 5, 6, 7, 8], by decide, rfl⟩) (op_storeRowE 1 ty_2 rfl rfl rfl rfl (by rw [List.length_map]; omega) (latJ_st hx hy hz) (by rfl) ?_)
      refine ga_end (by kernel_rfl) (.inl (by kernel_rfl)) ?_
      refine gx_block <| gx_then <| rc_region <| rl_op (by nofun) (op_rd rfl (by exact rd_addN (b := 1) rfl rfl (by omega)) ?_)
      refine rl_op (by nofun) (op_rd rfl (rd_move rfl) ?_)
      refine rl_nil <| gx_then ?_
      exact gx_cut (k + 1) ⟨by omega, by omega⟩ ⟨rfl, rfl, rfl, rfl, rfl, rfl, trivial⟩ ⟨[1, 2, 3, 4, 5, 6, 7, 8], by decide, rfl⟩
    rw [latJ_all hx (by omega), ← latW_next hi1]
    refine rl_nil <| gx_then <| rc_seq <| rc_cond_f rfl <| rc_exit <| gx_then_exit <| gx_then_exit <| gx_block_exit <| gx_block ?_
    exact rp_normal _ (rfl) ⟨[1, 2, 3, 0, 4, 5, 6, 7], by decide, rfl⟩
  · intro D L hI
    subst hI
    rw [latW_all hg hO]
    refine gx_block <| gx_then <| rc_seq ?_
    have hL := latC_LB hg
    have hLl := hL.len
    refine rc_region <| rl_op (by nofun) (op_rd rfl (rd_assign rfl) ?_)
    refine rl_nil <| gx_then <| rc_seq <| rc_seq <| rc_region <| rl_op (by nofun) (op_rd rfl (rd_load Try.underlying22 rfl rfl (by exact ld_blk 6 rfl rfl)) ?_)
    refine rl_op (by nofun) (op_rd rfl (rd_lenSlice Try.underlying22 rfl) ?_)
    refine rl_op (by nofun) (op_rd rfl (rd_move rfl) ?_)
    refine rl_nil <| gx_then <| rc_block <| gk_nil 3 1 <| rc_loopF (ι := Nat × Option Nat × Nat × List Nat) [(8, _), (9, _), (10, _), (93, _)] [_, _, _, _, _, _, _] (fun q => q.1 ≤ n.length ∧ q.2.2.2 = critI n q.1) (fun q Fr0 => ((17, .slice (rowA q.2.1) q.2.2.2.length q.2.2.1) :: (94, natV q.1) :: Fr0)) (fun q Fr0 => (.row 3 1 q.2.1 q.2.2.2.length q.2.2.1 (q.2.2.2.map natV) :: Fr0)) (fun q => n.length - q.1) (0, none, 0, []) (⟨Nat.zero_le _, rfl⟩) ⟨rfl, rfl, rfl, rfl, rfl, rfl, trivial⟩ ⟨[0, 1, 2, 3, 4, 5, 6, 7], by decide, rfl⟩ ?_
    rintro ⟨k, r, c9, oo⟩ ⟨hk, ho⟩
    simp only at hk ho ⊢
    have hol2 := critI_len n k
    rw [← ho] at hol2
    refine rc_seq <| rc_region <| rl_op (by nofun) (op_rd rfl (rd_lss rfl rfl) (gk_dec (fun h95 => ?_) (fun h95 => ?_)))
    · refine rl_nil <| gx_then <| rc_seq <| rc_cond_t rfl <| rc_skip <| gx_then <| rc_seq <| rc_block <| rc_seq <| rc_region <| rl_op (by nofun) (op_rd rfl (rd_move rfl) ?_)
      refine rl_op (by nofun) (op_rd rfl (rd_assign rfl) ?_)
      refine rl_nil <| gx_then <| rc_seq <| rc_drawP [0, 1, 2, 3, 4, 5, 6, 7] true 8 rfl rfl <| ga_first 0 (bm 9 1) rfl rfl rfl rfl (by kernel_rfl) (by kernel_rfl) ⟨[0, 1, 2, 3, 4, 5, 6, 7], by decide, rfl⟩ (qt_rd (rd_move rfl)) ?_
      refine ga_first 1 (bm 9 3) rfl rfl rfl rfl (by kernel_rfl) (by kernel_rfl) ⟨[0, 1, 2, 3, 4, 5, 6, 7], by decide, rfl⟩ (qt_rd (rd_move rfl)) ?_
      refine ga_first 2 (bm 9 7) rfl rfl rfl rfl (by kernel_rfl) (by kernel_rfl) ⟨[0, 1, 2, 3, 4, 5, 6, 7], by decide, rfl⟩ (qt_rd (rd_indexRow1 5 rfl Try.underlying25 ty_2 rfl rfl (by omega) (by omega))) ?_
      refine ga_first 3 (bm 9 15) rfl rfl rfl rfl (by kernel_rfl) (by kernel_rfl) ⟨[0, 1, 2, 3, 4, 5, 6, 7], by decide, rfl⟩ (qt_rd (rd_load Try.underlying2 rfl rfl (ld_row 5 rfl (get_natL (p := k) (by omega))))) ?_
      refine ga_first 4 (bm 9 31) rfl rfl rfl rfl (by kernel_rfl) (by kernel_rfl) ⟨[0, 1, 2, 3, 4, 5, 6, 7], by decide, rfl⟩ (qt_rd (rd_load Try.underlying25 rfl rfl (by exact ld_blk 4 rfl rfl))) ?_
      refine ga_first 5 (bm 9 63) rfl rfl rfl rfl (by kernel_rfl) (by kernel_rfl) ⟨[0, 1, 2, 3, 4, 5, 6, 7], by decide, rfl⟩ (qt_rd (rd_move rfl)) ?_
      refine ga_first 6 (bm 9 127) rfl rfl rfl rfl (by kernel_rfl) (by kernel_rfl) ⟨[0, 1, 2, 3, 4, 5, 6, 7], by decide, rfl⟩ (qt_rd (rd_indexRow1 3 rfl Try.underlying25 ty_2 rfl rfl (by omega) (by omega))) ?_
      refine ga_first 7 (bm 9 255) rfl rfl rfl rfl (by kernel_rfl) (by kernel_rfl) ⟨[0, 1, 2, 3, 4, 5, 6, 7], by decide, rfl⟩ (qt_rd (rd_load Try.underlying2 rfl rfl (ld_row 3 rfl (get_natL (p := k) (by omega))))) ?_
      refine ga_first 8 (bm 9 511) rfl rfl rfl rfl (by kernel_rfl) (by kernel_rfl) ⟨[0, 1, 2, 3, 4, 5, 6, 7], by decide, rfl⟩ (qt_rd (rd_eql rfl rfl)) (gk_dec (fun h105 => ?_) (fun h105 => ?_))
      · refine ga_end (by kernel_rfl) (.inr ⟨[0, 1, 2, 3, 4, 5, 6, 7], by decide, rfl⟩) ?_
        refine gx_then <| rc_cond_t rfl <| rc_region <| rl_op (by nofun) (op_rd rfl (rd_move rfl) ?_)
        refine rl_op (by nofun) (op_rd rfl (rd_move rfl) ?_)
        refine rl_op (by nofun) (op_buildSlice (sz := 1) rfl rfl (fun _ => bs_29_1_0 _) rfl rfl (fun b108 => ?_))
        refine rl_op (by nofun) (op_appendRow 1 0 Try.underlying29 ty_3 rfl (by decide) rfl rfl rfl rfl rfl (by simp [Value.oneCell']) (by omega) (by omega) (fun _ => (by rfl)) (fun r109 c109 => ?_))
        refine rl_op (by nofun) (op_rd rfl (rd_assign rfl) ?_)
        refine rl_nil <| gx_block <| gx_then <| rc_region <| rl_op (by nofun) (op_rd rfl (by exact rd_addN (b := 1) rfl rfl (by omega)) ?_)
        refine rl_op (by nofun) (op_rd rfl (rd_move rfl) ?_)
        refine rl_nil <| gx_then ?_
        rw [snocL, lenL]
        exact gx_cut ((k + 1, r109, c109, oo ++ [k])) ⟨⟨by simp only; omega, by simp only; rw [critI_yes (by omega), ho]⟩, by simp only; omega⟩ ⟨rfl, rfl, rfl, rfl, rfl, rfl, trivial⟩ ⟨[1, 2, 3, 4, 5, 6, 7, 8], by decide, rfl⟩
      refine ga_end (by kernel_rfl) (.inr ⟨[0, 1, 2, 3, 4, 5, 6, 7], by decide, rfl⟩) ?_
      refine gx_then <| rc_cond_f rfl <| rc_skip <| gx_block <| gx_then <| rc_region <| rl_op (by nofun) (op_rd rfl (by exact rd_addN (b := 1) rfl rfl (by omega)) ?_)
      refine rl_op (by nofun) (op_rd rfl (rd_move rfl) ?_)
      refine rl_nil <| gx_then ?_
      exact gx_cut ((k + 1, r, c9, oo)) ⟨⟨by simp only; omega, by simp only; rw [critI_no (by omega)]; exact ho⟩, by simp only; omega⟩ ⟨rfl, rfl, rfl, rfl, rfl, rfl, trivial⟩ ⟨[0, 1, 2, 3, 4, 5, 6, 7], by decide, rfl⟩
    refine rl_nil <| gx_then <| rc_seq <| rc_cond_f rfl <| rc_exit <| gx_then_exit <| gx_then_exit <| gx_block_exit <| gx_then <| rc_seq <| rc_region <| rl_op (by nofun) (op_rd rfl (rd_move rfl) ?_)
    refine rl_op (by nofun) (op_rd rfl (rd_move rfl) ?_)
    refine rl_op (by nofun) (op_rd rfl (rd_assign rfl) ?_)
    refine rl_op (by nofun) (op_rd rfl (rd_assign rfl) ?_)
    refine rl_op (by nofun) (op_rd rfl (rd_assign rfl) ?_)
    refine rl_nil <| gx_then <| rc_ret <| gx_retM3 [D] (.inl rfl) Try.results12 rfl rfl rfl ⟨[1, 0], by decide, rfl⟩ ?_
    have hk9 : k = n.length := by omega
    subst hk9
    refine .inr ⟨hch, r, c9, ?_, ?_⟩
    · rw [hn, ho]; rfl
    · rw [hn, ho]; rfl
  · intro D c i L hi hI
    exact hI.elim
end Go.Proofs.Ytafmcflggikbfaa
namespace Go.Wk
open Go.Gv
open Go.Sn
/-! # What Fits says -/
def bn (l : List Jb) (i : Nat) : Nat := (jb l i).bench
def runB (l : List Jb) (ats : List Int) (b : Nat) (h : Int) (i : Nat) : Bool := decide (bn l i = b) && decide (ats.getD i 0 ≤ h) && decide (h < ats.getD i 0 + hr l i)
def crowdP (l : List Jb) (ats : List Int) (b : Nat) (h : Int) (k : Nat) : Nat := ((List.range k).filter (runB l ats b h)).length
def crowdI (l : List Jb) (ats : List Int) (b : Nat) (h : Int) : Nat := crowdP l ats b h l.length
theorem crowdP_next (l : List Jb) (ats : List Int) (b : Nat) (h : Int) (k : Nat) : crowdP l ats b h (k + 1) = crowdP l ats b h k + if runB l ats b h k = true then 1 else 0 := by
  unfold crowdP
  rw [List.range_succ, List.filter_append, List.length_append]
  congr 1
  by_cases e : runB l ats b h k = true
  · simp [e]
  · simp [e]
theorem crowdP_le (l : List Jb) (ats : List Int) (b : Nat) (h : Int) (k : Nat) : crowdP l ats b h k ≤ k := by
  unfold crowdP
  exact Nat.le_trans (List.length_filter_le _ _) (by simp)
/-- the shop's benches of a kind -/
def sb (shop : List Int) (b : Nat) : Int := shop.getD b 0
def crR (shop : List Int) (l : List Jb) (ats : List Int) (i k : Nat) : Bool :=
  decide (ats.getD i 0 ≤ ats.getD k 0) && decide (ats.getD k 0 < ats.getD i 0 + hr l i) && decide (sb shop (bn l i) < (crowdI l ats (bn l i) (ats.getD k 0) : Int))
def crK (shop : List Int) (l : List Jb) (ats : List Int) (i k : Nat) : Bool :=
  !((decide (ats.getD k 0 < ats.getD i 0) && decide (ats.getD k 0 + hr l k ≤ ats.getD i 0)) || decide (ats.getD i 0 + hr l i ≤ ats.getD k 0)) && decide (sb shop (bn l i) < (crowdI l ats (bn l i) (max (ats.getD k 0) (ats.getD i 0)) : Int))
def crowdedI (shop : List Int) (l : List Jb) (ats : List Int) (i : Nat) : Bool := (List.range l.length).any (crR shop l ats i)
theorem crowded_same {shop : List Int} {l : List Jb} {ats : List Int} {i : Nat} (hi : i < l.length) (hh : 1 ≤ hr l i) : (List.range l.length).any (crK shop l ats i) = crowdedI shop l ats i := by
  unfold crowdedI
  rw [Bool.eq_iff_iff, List.any_eq_true, List.any_eq_true]
  constructor
  · rintro ⟨k, hk, h⟩
    unfold crK at h
    simp only [Bool.and_eq_true, Bool.not_eq_true', Bool.or_eq_false_iff, Bool.and_eq_false_iff, decide_eq_false_iff_not, decide_eq_true_eq] at h
    obtain ⟨⟨h1, h2⟩, h3⟩ := h
    by_cases e : ats.getD k 0 < ats.getD i 0
    · refine ⟨i, List.mem_range.2 hi, ?_⟩
      rw [show max (ats.getD k 0) (ats.getD i 0) = ats.getD i 0 by omega] at h3
      unfold crR
      simp only [Bool.and_eq_true, decide_eq_true_eq]
      exact ⟨⟨Int.le_refl _, by omega⟩, h3⟩
    · refine ⟨k, hk, ?_⟩
      rw [show max (ats.getD k 0) (ats.getD i 0) = ats.getD k 0 by omega] at h3
      unfold crR
      simp only [Bool.and_eq_true, decide_eq_true_eq]
      exact ⟨⟨by omega, by omega⟩, h3⟩
  · rintro ⟨k, hk, h⟩
    unfold crR at h
    simp only [Bool.and_eq_true, decide_eq_true_eq] at h
    obtain ⟨⟨h1, h2⟩, h3⟩ := h
    refine ⟨k, hk, ?_⟩
    unfold crK
    rw [show max (ats.getD k 0) (ats.getD i 0) = ats.getD k 0 by omega]
    simp only [Bool.and_eq_true, Bool.not_eq_true', Bool.or_eq_false_iff, Bool.and_eq_false_iff, decide_eq_false_iff_not, decide_eq_true_eq]
    exact ⟨⟨.inl (by omega), by omega⟩, h3⟩
def wrongB (shop : List Int) (l : List Jb) (ats : List Int) (i : Nat) : Bool :=
  decide (ats.getD i 0 < 0) || decide (ats.getD i 0 < aftI l ats i) || decide (shop.length ≤ bn l i) || crowdedI shop l ats i
def wrongP (shop : List Int) (l : List Jb) (ats : List Int) : Int := match (List.range l.length).find? (wrongB shop l ats) with
  | some i => (i : Int)
  | none => -1
theorem wrongP_yes {shop : List Int} {l : List Jb} {ats : List Int} {i : Nat} (hi : i < l.length) (h : ∀ j, j < i → wrongB shop l ats j = false) (hw : wrongB shop l ats i = true) : wrongP shop l ats = (i : Int) := by
  unfold wrongP
  have : (List.range l.length).find? (wrongB shop l ats) = some i := by
    rw [List.find?_range_eq_some]
    exact ⟨hw, List.mem_range.2 hi, fun j hj => by rw [h j hj]; rfl⟩
  rw [this]
theorem wrongP_no {shop : List Int} {l : List Jb} {ats : List Int} (h : ∀ j, j < l.length → wrongB shop l ats j = false) : wrongP shop l ats = -1 := by
  unfold wrongP
  have : (List.range l.length).find? (wrongB shop l ats) = none := by
    rw [List.find?_eq_none]
    intro j hj
    rw [h j (List.mem_range.1 hj)]; decide
  rw [this]
theorem wrongP_neg {shop : List Int} {l : List Jb} {ats : List Int} (h : wrongP shop l ats < 0) : ∀ j, j < l.length → wrongB shop l ats j = false := fun j hj => by
  unfold wrongP at h
  split at h
  · omega
  · rename_i hn
    rw [List.find?_eq_none] at hn
    have := hn j (List.mem_range.2 hj)
    simpa using this
def badAts (l : List Jb) (ats : List Int) : Bool := decide (ats.length ≠ l.length) || ats.any fun t => decide (t < -1000000) || decide (1000000 < t)
end Go.Wk
namespace Go.Proofs.Ytafmcflggikbfaa
open Go.Gv
open Go.RowKit
open Go.Sn
open Go.Wk
open Sx
namespace Sx
theorem run_at {l : List Jb} {ats : List Int} {b k : Nat} {h t : Int} {x : Jb} (hx : l[k]? = some x) (ht : ats[k]? = some t) : runB l ats b h k = (decide (x.bench = b) && decide (t ≤ h) && decide (h < t + x.hours)) := by
  unfold runB bn
  rw [jb_at hx, hr_at hx, List.getD_eq_getElem?_getD, ht]; rfl
theorem crowd_yes {l : List Jb} {ats : List Int} {b k : Nat} {h t : Int} {x : Jb} (hx : l[k]? = some x) (ht : ats[k]? = some t) (h1 : x.bench = b ∧ t ≤ h ∧ h < t + x.hours) : crowdP l ats b h (k + 1) = crowdP l ats b h k + 1 := by
  rw [crowdP_next, run_at hx ht, if_pos (by simp only [Bool.and_eq_true, decide_eq_true_eq]; exact ⟨⟨h1.1, h1.2.1⟩, h1.2.2⟩)]
theorem crowd_no {l : List Jb} {ats : List Int} {b k : Nat} {h t : Int} {x : Jb} (hx : l[k]? = some x) (ht : ats[k]? = some t) (h1 : ¬ (x.bench = b ∧ t ≤ h ∧ h < t + x.hours)) : crowdP l ats b h (k + 1) = crowdP l ats b h k := by
  rw [crowdP_next, run_at hx ht, if_neg (by simp only [Bool.and_eq_true, decide_eq_true_eq]; exact fun e => h1 ⟨e.1.1, e.1.2, e.2⟩), Nat.add_zero]
theorem bn_at {l : List Jb} {i : Nat} {x : Jb} (hx : l[i]? = some x) : bn l i = x.bench := by unfold bn; rw [jb_at hx]
theorem crK_at {shop : List Int} {l : List Jb} {ats : List Int} {i k : Nat} {x z : Jb} {t u s : Int} (hx : l[i]? = some x) (hz : l[k]? = some z) (ht : ats[i]? = some t) (hu : ats[k]? = some u) (hs : shop[x.bench]? = some s) :
    crK shop l ats i k = (!((decide (u < t) && decide (u + z.hours ≤ t)) || decide (t + x.hours ≤ u)) && decide (s < (crowdI l ats x.bench (max u t) : Int))) := by
  unfold crK sb
  rw [bn_at hx, hr_at hx, hr_at hz, show ats.getD i 0 = t from getD_some ht, show ats.getD k 0 = u from getD_some hu, show shop.getD x.bench 0 = s from getD_some hs]
theorem any_r {n : Nat} {f : Nat → Bool} {k : Nat} (hk : k < n) (h : f k = true) : (List.range n).any f = true := List.any_eq_true.2 ⟨k, List.mem_range.2 hk, h⟩
theorem any_n {n : Nat} {f : Nat → Bool} {k : Nat} (h : ∀ j, j < k → f j = false) (hk : n ≤ k) : (List.range n).any f = false := by
  rw [List.any_eq_false]
  intro j hj
  rw [h j (by have := List.mem_range.1 hj; omega)]; decide
theorem snocR {f : Nat → Bool} {k : Nat} (h : ∀ j, j < k → f j = false) (hk : f k = false) : ∀ j, j < k + 1 → f j = false := fun j hj => by
  rcases Nat.lt_or_eq_of_le (Nat.le_of_lt_succ hj) with h1 | rfl
  · exact h j h1
  · exact hk
theorem wrong_at {shop : List Int} {l : List Jb} {ats : List Int} {i : Nat} {x : Jb} {t : Int} (hx : l[i]? = some x) (ht : ats[i]? = some t) : wrongB shop l ats i = (decide (t < 0) || decide (t < aftI l ats i) || decide (shop.length ≤ x.bench) || crowdedI shop l ats i) := by
  unfold wrongB
  rw [bn_at hx, List.getD_eq_getElem?_getD, ht]; rfl
def arrC (f : Nat → Nat) : List Value := (List.range 6).map fun b => natV (f b)
theorem arrC_get {f : Nat → Nat} {b : Nat} (hb : b < 6) : (arrC f)[b]? = some (natV (f b)) := by
  unfold arrC; rw [List.getElem?_map, List.getElem?_range hb]; rfl
theorem arrC_set {f g : Nat → Nat} {b v : Nat} (hb : b < 6) (h1 : g b = v) (h2 : ∀ q, q ≠ b → f q = g q) : (arrC f).set b (natV v) = arrC g := by
  unfold arrC
  apply List.ext_getElem?
  intro q
  rw [List.getElem?_set, List.getElem?_map, List.getElem?_map]
  by_cases e : b = q
  · subst e
    rw [if_pos rfl, if_pos (by simpa using hb), List.getElem?_range hb, ← h1]; rfl
  · rw [if_neg e]
    by_cases h : q < 6
    · rw [List.getElem?_range h, Option.map_some, Option.map_some, h2 q (fun e2 => e e2.symm)]
    · rw [List.getElem?_eq_none (by simpa using h)]; rfl
theorem arrC_get0 {f : Nat → Nat} {b : Nat} (hb : b < 6) : (arrC f)[0 + b]? = some (natV (f b)) := by rw [Nat.zero_add]; exact arrC_get hb
theorem arrC_set0 {f g : Nat → Nat} {b v : Nat} (hb : b < 6) (h1 : g b = v) (h2 : ∀ q, q ≠ b → f q = g q) : (arrC f).set (0 + b) (natV v) = arrC g := by rw [Nat.zero_add]; exact arrC_set hb h1 h2
theorem arrC_ble {f : Nat → Nat} {b : Nat} (hb : b < 6) : (arrC f).length.ble (0 + b) = false := by
  have e : (arrC f).length = 6 := by simp [arrC]
  rw [e, Nat.zero_add]
  cases h : Nat.ble 6 b with
  | false => rfl
  | true => have := Nat.le_of_ble_eq_true h; omega
theorem ben_lt {l : List Jb} (hj : JOk l) {i : Nat} {x : Jb} (hx : l[i]? = some x) : x.bench < 6 := by
  have := hj.ben i (List.getElem?_eq_some_iff.1 hx).1
  rw [jb_at hx] at this; exact this
end Sx
open Sx
set_option maxRecDepth 100000 in
set_option maxHeartbeats 1000000 in
theorem crowded_ok (a : Option Addr) (c : Nat) (l : List Jb) (hj : JOk l) (q : Option Addr) (cq : Nat) (ats : List Int) (hal : ats.length = l.length) (hb : ∀ t ∈ ats, -1099511627776 ≤ t ∧ t ≤ 1099511627776) (sa : Option Addr) (sc : Nat) (shop : List Int) (hsl : shop.length ≤ 6) (i : Nat) (x : Jb) (hx : l[i]? = some x) (hxs : x.bench < shop.length) (w0 : World) (hJ : JnIn a l w0 []) (hT : OldSl w0 [] q ats.length 1 (ats.map intV)) (hS : OldSl w0 [] sa shop.length 1 (shop.map intV)) : Sp Try.prog 42 [.slice sa shop.length sc, .slice a l.length c, .slice q ats.length cq, natV i] w0 [] (RV (.bool (crowdedI shop l ats i))) := by
  have hln := hj.n
  have hil := (List.getElem?_eq_some_iff.1 hx).1
  have hxh := job_le hj hx
  obtain ⟨t, ht⟩ := get_some (show i < ats.length by omega)
  have htb := hb t (List.mem_of_getElem? ht)
  obtain ⟨s, hs⟩ := get_some hxs
  refine spec_enter Try.func42 rfl Try.ntmps42 rfl (Own.refl _) ?_
  simp only [argEnv]
  refine gc_seq <| gc_region <| gl_op <| op_rd rfl (rd_assign rfl) <| gl_nil <| gx_then <| gc_seq <| gc_seq <| gc_region <| gl_op <| op_rd rfl (rd_move rfl) <| gl_op <| op_rd rfl (rd_lenSlice Try.underlying22 rfl) <| gl_op <| op_rd rfl (rd_move rfl) <| gl_nil <| gx_then <| gc_block <| gc_loopF (ι := Nat) [(0, _), (1, _), (2, _), (3, _), (15, _), (16, _)] [] (fun k => k ≤ l.length ∧ ∀ j, j < k → crK shop l ats i j = false) (fun k Fr0 => ((17, natV k) :: Fr0)) (fun k Fr0 => Fr0) (fun k => l.length - k) 0 (⟨Nat.zero_le _, fun j h => absurd h (Nat.not_lt_zero j)⟩) ⟨rfl, rfl, rfl, rfl, rfl, rfl, rfl, trivial⟩ ⟨[], by decide, rfl⟩ ?_
  rintro k ⟨hk, hall⟩
  refine gc_seq <| gc_region <| gl_op (op_rd rfl (rd_lss rfl rfl) (gk_dec (fun h18 => ?_) (fun h18 => ?_)))
  · obtain ⟨z, hz⟩ := get_some (show k < l.length by omega)
    have hzh := job_le hj hz
    obtain ⟨u, hu⟩ := get_some (show k < ats.length by omega)
    have hub := hb u (List.mem_of_getElem? hu)
    refine gl_nil <| gx_then <| gc_seq <| gc_cond_t rfl <| gc_skip <| gx_then <| gc_seq <| gc_block <| gc_seq <| gc_region <| gl_op <| op_rd rfl (rd_move rfl) <| gl_op (op_rd rfl (rd_indexOld hJ.t Try.underlying22 ty_48 rfl rfl (by omega) (by omega)) ?_)
    refine gl_op (op_rd rfl (rd_loadAgg Try.underlying48 rfl ty_48 rfl (cs_slN hJ.t (flat_drop_get Jb.cells 4 (fun _ => rfl) hz)) rfl) ?_)
    refine gl_op (op_alloc ty_48 rfl rfl (fun b10 => ?_))
    refine gl_op <| op_rd rfl (rd_assign rfl) <| gl_op (op_storeAgg 0 ty_48 rfl rfl rfl rfl rfl rfl (by rfl) ?_)
    refine gl_nil <| gx_then <| gc_seq <| gc_seq <| gc_drawP [0] true 39 rfl <| ga_first 0 (bm 40 1) rfl rfl rfl rfl (by kernel_rfl) (by kernel_rfl) ⟨[0], by decide, rfl⟩ (qt_rd (rd_move rfl)) ?_
    refine ga_first 1 (bm 40 3) rfl rfl rfl rfl (by kernel_rfl) (by kernel_rfl) ⟨[0], by decide, rfl⟩ (qt_rd (rd_move rfl)) ?_
    refine ga_first 2 (bm 40 7) rfl rfl rfl rfl (by kernel_rfl) (by kernel_rfl) ⟨[0], by decide, rfl⟩ (qt_rd (rd_indexOld1 hT Try.underlying25 ty_2 rfl rfl (by omega) (by omega))) ?_
    refine ga_first 3 (bm 40 15) rfl rfl rfl rfl (by kernel_rfl) (by kernel_rfl) ⟨[0], by decide, rfl⟩ (qt_rd (rd_load Try.underlying2 rfl rfl (ld_slN hT (get_intL hu)))) ?_
    refine ga_first 4 (bm 40 31) rfl rfl rfl rfl (by kernel_rfl) (by kernel_rfl) ⟨[0], by decide, rfl⟩ (qt_rd (rd_move rfl)) ?_
    refine ga_first 5 (bm 40 63) rfl rfl rfl rfl (by kernel_rfl) (by kernel_rfl) ⟨[0], by decide, rfl⟩ (qt_rd (rd_move rfl)) ?_
    refine ga_first 6 (bm 40 127) rfl rfl rfl rfl (by kernel_rfl) (by kernel_rfl) ⟨[0], by decide, rfl⟩ (qt_rd (rd_indexOld1 hT Try.underlying25 ty_2 rfl rfl (by omega) (by omega))) ?_
    refine ga_first 7 (bm 40 255) rfl rfl rfl rfl (by kernel_rfl) (by kernel_rfl) ⟨[0], by decide, rfl⟩ (qt_rd (rd_load Try.underlying2 rfl rfl (ld_slN hT (get_intL ht)))) ?_
    refine ga_first 8 (bm 40 511) rfl rfl rfl rfl (by kernel_rfl) (by kernel_rfl) ⟨[0], by decide, rfl⟩ (qt_rd (rd_lss rfl rfl)) (gk_dec (fun h30 => ?_) (fun h30 => ?_))
    · refine ga_first 9 (bm 40 1023) rfl rfl rfl rfl (by kernel_rfl) (by kernel_rfl) ⟨[0], by decide, rfl⟩ (qt_rd (rd_move rfl)) ?_
      refine ga_firstY 10 (bm 40 2047) rfl rfl rfl rfl rfl rfl (by kernel_rfl) (by kernel_rfl) ⟨[0], by decide, rfl⟩ (qt_rd (rd_move rfl)) ?_
      refine ga_firstY 11 (bm 40 4095) rfl rfl rfl rfl rfl rfl (by kernel_rfl) (by kernel_rfl) ⟨[0], by decide, rfl⟩ (qt_rd (rd_move rfl)) ?_
      refine ga_firstY 12 (bm 40 8191) rfl rfl rfl rfl rfl rfl (by kernel_rfl) (by kernel_rfl) ⟨[0], by decide, rfl⟩ (qt_rd (rd_indexOld1 hT Try.underlying25 ty_2 rfl rfl (by omega) (by omega))) ?_
      refine ga_firstY 13 (bm 40 16383) rfl rfl rfl rfl rfl rfl (by kernel_rfl) (by kernel_rfl) ⟨[0], by decide, rfl⟩ (qt_rd (rd_load Try.underlying2 rfl rfl (ld_slN hT (get_intL hu)))) ?_
      refine ga_firstY 14 (bm 40 32767) rfl rfl rfl rfl rfl rfl (by kernel_rfl) (by kernel_rfl) ⟨[0], by decide, rfl⟩ (qt_rd (rd_fieldAddr rfl (fa_48_2 _))) ?_
      refine ga_firstY 15 (bm 40 65535) rfl rfl rfl rfl rfl rfl (by kernel_rfl) (by kernel_rfl) ⟨[0], by decide, rfl⟩ (qt_rd (rd_load Try.underlying2 rfl rfl (by exact ld_blk 0 rfl rfl))) ?_
      refine ga_firstY 16 (bm 40 131071) rfl rfl rfl rfl rfl rfl (by kernel_rfl) (by kernel_rfl) ⟨[0], by decide, rfl⟩ (qt_rd (by exact rd_add rfl rfl (by omega) (by omega))) ?_
      refine ga_firstY 17 (bm 40 262143) rfl rfl rfl rfl rfl rfl (by kernel_rfl) (by kernel_rfl) ⟨[0], by decide, rfl⟩ (qt_rd (rd_move rfl)) ?_
      refine ga_firstY 18 (bm 40 524287) rfl rfl rfl rfl rfl rfl (by kernel_rfl) (by kernel_rfl) ⟨[0], by decide, rfl⟩ (qt_rd (rd_move rfl)) ?_
      refine ga_firstY 19 (bm 40 1048575) rfl rfl rfl rfl rfl rfl (by kernel_rfl) (by kernel_rfl) ⟨[0], by decide, rfl⟩ (qt_rd (rd_indexOld1 hT Try.underlying25 ty_2 rfl rfl (by omega) (by omega))) ?_
      refine ga_firstY 20 (bm 40 2097151) rfl rfl rfl rfl rfl rfl (by kernel_rfl) (by kernel_rfl) ⟨[0], by decide, rfl⟩ (qt_rd (rd_load Try.underlying2 rfl rfl (ld_slN hT (get_intL ht)))) ?_
      refine ga_firstY 21 (bm 40 4194303) rfl rfl rfl rfl rfl rfl (by kernel_rfl) (by kernel_rfl) ⟨[0], by decide, rfl⟩ (qt_rd (rd_leq rfl rfl)) (gk_dec (fun h43 => ?_) (fun h43 => ?_))
      · refine ga_first 22 (bm 40 8388607) rfl rfl rfl rfl (by kernel_rfl) (by kernel_rfl) ⟨[0], by decide, rfl⟩ (qt_rd (rd_pick_t rfl rfl)) ?_
        refine ga_first 23 (bm 40 16777215) rfl rfl rfl rfl (by kernel_rfl) (by kernel_rfl) ⟨[0], by decide, rfl⟩ (qt_rd (rd_move rfl)) ?_
        refine ga_firstN 24 (bm 40 33554431) rfl rfl rfl rfl rfl rfl (by kernel_rfl) (by kernel_rfl) ⟨[0], by decide, rfl⟩ ?_
        refine ga_firstN 25 (bm 40 67108863) rfl rfl rfl rfl rfl rfl (by kernel_rfl) (by kernel_rfl) ⟨[0], by decide, rfl⟩ ?_
        refine ga_firstN 26 (bm 40 134217727) rfl rfl rfl rfl rfl rfl (by kernel_rfl) (by kernel_rfl) ⟨[0], by decide, rfl⟩ ?_
        refine ga_firstN 27 (bm 40 268435455) rfl rfl rfl rfl rfl rfl (by kernel_rfl) (by kernel_rfl) ⟨[0], by decide, rfl⟩ ?_
        refine ga_firstN 28 (bm 40 536870911) rfl rfl rfl rfl rfl rfl (by kernel_rfl) (by kernel_rfl) ⟨[0], by decide, rfl⟩ ?_
        refine ga_firstN 29 (bm 40 1073741823) rfl rfl rfl rfl rfl rfl (by kernel_rfl) (by kernel_rfl) ⟨[0], by decide, rfl⟩ ?_
        refine ga_firstN 30 (bm 40 2147483647) rfl rfl rfl rfl rfl rfl (by kernel_rfl) (by kernel_rfl) ⟨[0], by decide, rfl⟩ ?_
        refine ga_firstN 31 (bm 40 4294967295) rfl rfl rfl rfl rfl rfl (by kernel_rfl) (by kernel_rfl) ⟨[0], by decide, rfl⟩ ?_
        refine ga_firstN 32 (bm 40 8589934591) rfl rfl rfl rfl rfl rfl (by kernel_rfl) (by kernel_rfl) ⟨[0], by decide, rfl⟩ ?_
        refine ga_firstN 33 (bm 40 17179869183) rfl rfl rfl rfl rfl rfl (by kernel_rfl) (by kernel_rfl) ⟨[0], by decide, rfl⟩ ?_
        refine ga_firstN 34 (bm 40 34359738367) rfl rfl rfl rfl rfl rfl (by kernel_rfl) (by kernel_rfl) ⟨[0], by decide, rfl⟩ ?_
        refine ga_firstN 35 (bm 40 68719476735) rfl rfl rfl rfl rfl rfl (by kernel_rfl) (by kernel_rfl) ⟨[0], by decide, rfl⟩ ?_
        refine ga_firstN 36 (bm 40 137438953471) rfl rfl rfl rfl rfl rfl (by kernel_rfl) (by kernel_rfl) ⟨[0], by decide, rfl⟩ ?_
        refine ga_firstN 37 (bm 40 274877906943) rfl rfl rfl rfl rfl rfl (by kernel_rfl) (by kernel_rfl) ⟨[0], by decide, rfl⟩ ?_
        refine ga_firstN 38 (bm 40 549755813887) rfl rfl rfl rfl rfl rfl (by kernel_rfl) (by kernel_rfl) ⟨[0], by decide, rfl⟩ ?_
        refine ga_first 39 (bm 40 1099511627775) rfl rfl rfl rfl (by kernel_rfl) (by kernel_rfl) ⟨[0], by decide, rfl⟩ (qt_rd (rd_pick_t rfl rfl)) ?_
        refine ga_end (by kernel_rfl) (.inr ⟨[0], by decide, rfl⟩) ?_
        refine gx_then <| gc_cond_t rfl <| gc_exit <| gx_then_exit <| gx_block_exit <| gx_then ?_
        have hno : crK shop l ats i k = false := by rw [crK_at hx hz ht hu hs]; unfold crowdI; simp; omega
        refine gc_region <| gl_op (op_rd rfl (by exact rd_addN (b := 1) rfl rfl (by omega)) ?_)
        refine gl_op <| op_rd rfl (rd_move rfl) <| gl_nil <| gx_then ?_
        exact gx_cut (k + 1) ⟨⟨by omega, snocR hall hno⟩, by omega⟩ ⟨rfl, rfl, rfl, rfl, rfl, rfl, rfl, trivial⟩ ⟨[], by decide, rfl⟩
      refine ga_first 22 (bm 40 8388607) rfl rfl rfl rfl (by kernel_rfl) (by kernel_rfl) ⟨[0], by decide, rfl⟩ (qt_rd (rd_pick_t rfl rfl)) ?_
      refine ga_first 23 (bm 40 16777215) rfl rfl rfl rfl (by kernel_rfl) (by kernel_rfl) ⟨[0], by decide, rfl⟩ (qt_rd (rd_move rfl)) ?_
      refine ga_firstY 24 (bm 40 33554431) rfl rfl rfl rfl rfl rfl (by kernel_rfl) (by kernel_rfl) ⟨[0], by decide, rfl⟩ (qt_rd (rd_move rfl)) ?_
      refine ga_firstY 25 (bm 40 67108863) rfl rfl rfl rfl rfl rfl (by kernel_rfl) (by kernel_rfl) ⟨[0], by decide, rfl⟩ (qt_rd (rd_move rfl)) ?_
      refine ga_firstY 26 (bm 40 134217727) rfl rfl rfl rfl rfl rfl (by kernel_rfl) (by kernel_rfl) ⟨[0], by decide, rfl⟩ (qt_rd (rd_indexOld1 hT Try.underlying25 ty_2 rfl rfl (by omega) (by omega))) ?_
      refine ga_firstY 27 (bm 40 268435455) rfl rfl rfl rfl rfl rfl (by kernel_rfl) (by kernel_rfl) ⟨[0], by decide, rfl⟩ (qt_rd (rd_load Try.underlying2 rfl rfl (ld_slN hT (get_intL hu)))) ?_
      refine ga_firstY 28 (bm 40 536870911) rfl rfl rfl rfl rfl rfl (by kernel_rfl) (by kernel_rfl) ⟨[0], by decide, rfl⟩ (qt_rd (rd_move rfl)) ?_
      refine ga_firstY 29 (bm 40 1073741823) rfl rfl rfl rfl rfl rfl (by kernel_rfl) (by kernel_rfl) ⟨[0], by decide, rfl⟩ (qt_rd (rd_move rfl)) ?_
      refine ga_firstY 30 (bm 40 2147483647) rfl rfl rfl rfl rfl rfl (by kernel_rfl) (by kernel_rfl) ⟨[0], by decide, rfl⟩ (qt_rd (rd_indexOld1 hT Try.underlying25 ty_2 rfl rfl (by omega) (by omega))) ?_
      refine ga_firstY 31 (bm 40 4294967295) rfl rfl rfl rfl rfl rfl (by kernel_rfl) (by kernel_rfl) ⟨[0], by decide, rfl⟩ (qt_rd (rd_load Try.underlying2 rfl rfl (ld_slN hT (get_intL ht)))) ?_
      refine ga_firstY 32 (bm 40 8589934591) rfl rfl rfl rfl rfl rfl (by kernel_rfl) (by kernel_rfl) ⟨[0], by decide, rfl⟩ (qt_rd (rd_move rfl)) ?_
      refine ga_firstY 33 (bm 40 17179869183) rfl rfl rfl rfl rfl rfl (by kernel_rfl) (by kernel_rfl) ⟨[0], by decide, rfl⟩ (qt_rd (rd_move rfl)) ?_
      refine ga_firstY 34 (bm 40 34359738367) rfl rfl rfl rfl rfl rfl (by kernel_rfl) (by kernel_rfl) ⟨[0], by decide, rfl⟩ (qt_rd (rd_indexOld hJ.t Try.underlying22 ty_48 rfl rfl (by omega) (by omega))) ?_
      refine ga_firstY 35 (bm 40 68719476735) rfl rfl rfl rfl rfl rfl (by kernel_rfl) (by kernel_rfl) ⟨[0], by decide, rfl⟩ (qt_rd (rd_fieldAddr rfl (fa_48_2 _))) ?_
      refine ga_firstY 36 (bm 40 137438953471) rfl rfl rfl rfl rfl rfl (by kernel_rfl) (by kernel_rfl) ⟨[0], by decide, rfl⟩ (qt_rd (rd_load Try.underlying2 rfl rfl (ld_slf hJ.t (get_flat Jb.cells 4 (fun _ => rfl) hx (j := 2) (by decide) rfl)))) ?_
      refine ga_firstY 37 (bm 40 274877906943) rfl rfl rfl rfl rfl rfl (by kernel_rfl) (by kernel_rfl) ⟨[0], by decide, rfl⟩ (qt_rd (by exact rd_add rfl rfl (by omega) (by omega))) ?_
      refine ga_firstY 38 (bm 40 549755813887) rfl rfl rfl rfl rfl rfl (by kernel_rfl) (by kernel_rfl) ⟨[0], by decide, rfl⟩ (qt_rd (rd_geq rfl rfl)) (gk_dec (fun h60 => ?_) (fun h60 => ?_))
      · refine ga_first 39 (bm 40 1099511627775) rfl rfl rfl rfl (by kernel_rfl) (by kernel_rfl) ⟨[0], by decide, rfl⟩ (qt_rd (rd_pick_f rfl rfl)) ?_
        refine ga_end (by kernel_rfl) (.inr ⟨[0], by decide, rfl⟩) ?_
        refine gx_then <| gc_cond_t rfl <| gc_exit <| gx_then_exit <| gx_block_exit <| gx_then ?_
        have hno : crK shop l ats i k = false := by rw [crK_at hx hz ht hu hs]; unfold crowdI; simp; omega
        refine gc_region <| gl_op (op_rd rfl (by exact rd_addN (b := 1) rfl rfl (by omega)) ?_)
        refine gl_op <| op_rd rfl (rd_move rfl) <| gl_nil <| gx_then ?_
        exact gx_cut (k + 1) ⟨⟨by omega, snocR hall hno⟩, by omega⟩ ⟨rfl, rfl, rfl, rfl, rfl, rfl, rfl, trivial⟩ ⟨[], by decide, rfl⟩
      refine ga_first 39 (bm 40 1099511627775) rfl rfl rfl rfl (by kernel_rfl) (by kernel_rfl) ⟨[0], by decide, rfl⟩ (qt_rd (rd_pick_f rfl rfl)) ?_
      refine ga_end (by kernel_rfl) (.inr ⟨[0], by decide, rfl⟩) ?_
      refine gx_then <| gc_cond_f rfl <| gc_skip <| gx_then <| gc_seq <| gc_region <| gl_op (op_alloc ty_88 rfl rfl (fun b11 => ?_))
      refine gl_nil <| gx_then <| gc_seq <| gc_drawP [0, 1] true 9 rfl <| ga_first 0 (bm 10 1) rfl rfl rfl rfl (by kernel_rfl) (by kernel_rfl) ⟨[0, 1], by decide, rfl⟩ (qt_rd (rd_move rfl)) ?_
      refine ga_first 1 (bm 10 3) rfl rfl rfl rfl (by kernel_rfl) (by kernel_rfl) ⟨[0, 1], by decide, rfl⟩ (qt_rd (rd_move rfl)) ?_
      refine ga_first 2 (bm 10 7) rfl rfl rfl rfl (by kernel_rfl) (by kernel_rfl) ⟨[0, 1], by decide, rfl⟩ (qt_rd (rd_indexOld1 hT Try.underlying25 ty_2 rfl rfl (by omega) (by omega))) ?_
      refine ga_first 3 (bm 10 15) rfl rfl rfl rfl (by kernel_rfl) (by kernel_rfl) ⟨[0, 1], by decide, rfl⟩ (qt_rd (rd_load Try.underlying2 rfl rfl (ld_slN hT (get_intL hu)))) ?_
      refine ga_first 4 (bm 10 31) rfl rfl rfl rfl (by kernel_rfl) (by kernel_rfl) ⟨[0, 1], by decide, rfl⟩ (qt_rd (rd_move rfl)) ?_
      refine ga_first 5 (bm 10 63) rfl rfl rfl rfl (by kernel_rfl) (by kernel_rfl) ⟨[0, 1], by decide, rfl⟩ (qt_rd (rd_move rfl)) ?_
      refine ga_first 6 (bm 10 127) rfl rfl rfl rfl (by kernel_rfl) (by kernel_rfl) ⟨[0, 1], by decide, rfl⟩ (qt_rd (rd_indexOld1 hT Try.underlying25 ty_2 rfl rfl (by omega) (by omega))) ?_
      refine ga_first 7 (bm 10 255) rfl rfl rfl rfl (by kernel_rfl) (by kernel_rfl) ⟨[0, 1], by decide, rfl⟩ (qt_rd (rd_load Try.underlying2 rfl rfl (ld_slN hT (get_intL ht)))) ?_
      refine ga_first 8 (bm 10 511) rfl rfl rfl rfl (by kernel_rfl) (by kernel_rfl) ⟨[0, 1], by decide, rfl⟩ (qt_rd (rd_max2 rfl rfl)) ?_
      refine ga_first 9 (bm 10 1023) rfl rfl rfl rfl (by kernel_rfl) (by kernel_rfl) ⟨[0, 1], by decide, rfl⟩ (qt_rd (rd_assign rfl)) ?_
      refine ga_end (by kernel_rfl) (.inr ⟨[0, 1], by decide, rfl⟩) ?_
      refine gx_then <| gc_seq <| gc_seq ?_
      rw [show [Value.int IntKind.i64 0, Value.int IntKind.i64 0, Value.int IntKind.i64 0, Value.int IntKind.i64 0, Value.int IntKind.i64 0, Value.int IntKind.i64 0] = arrC fun b => crowdP l ats b (max u t) 0 from rfl]
      refine gc_region <| gl_op <| op_rd rfl (rd_move rfl) <| gl_op <| op_rd rfl (rd_lenSlice Try.underlying22 rfl) <| gl_op <| op_rd rfl (rd_move rfl) <| gl_nil <| gx_then <| gc_block <| gc_loopF (ι := Nat) [(0, _), (1, _), (2, _), (3, _), (11, _), (12, _), (15, _), (16, _), (17, _), (71, _), (72, _)] [_] (fun m => m ≤ l.length) (fun m Fr0 => ((73, natV m) :: Fr0)) (fun m Fr0 => (.blk b11 (arrC fun b => crowdP l ats b (max u t) m) 88 :: Fr0)) (fun m => l.length - m) 0 (Nat.zero_le _) ⟨rfl, rfl, rfl, rfl, rfl, rfl, rfl, rfl, rfl, rfl, rfl, rfl, trivial⟩ ⟨[0, 1], by decide, rfl⟩ ?_
      rintro m hm
      refine gc_seq <| gc_region <| gl_op (op_rd rfl (rd_lss rfl rfl) (gk_dec (fun h74 => ?_) (fun h74 => ?_)))
      · obtain ⟨z2, hz2⟩ := get_some (show m < l.length by omega)
        have hz2h := job_le hj hz2
        have hz2b := ben_lt hj hz2
        obtain ⟨u2, hu2⟩ := get_some (show m < ats.length by omega)
        have hu2b := hb u2 (List.mem_of_getElem? hu2)
        have hcl := crowdP_le l ats z2.bench (max u t) m
        refine gl_nil <| gx_then <| gc_seq <| gc_cond_t rfl <| gc_skip <| gx_then <| gc_seq <| gc_block <| gc_seq <| gc_region <| gl_op <| op_rd rfl (rd_move rfl) <| gl_op (op_rd rfl (rd_indexOld hJ.t Try.underlying22 ty_48 rfl rfl (by omega) (by omega)) ?_)
        refine gl_op (op_rd rfl (rd_loadAgg Try.underlying48 rfl ty_48 rfl (cs_slN hJ.t (flat_drop_get Jb.cells 4 (fun _ => rfl) hz2)) rfl) ?_)
        refine gl_op (op_alloc ty_48 rfl rfl (fun b14 => ?_))
        refine gl_op <| op_rd rfl (rd_assign rfl) <| gl_op (op_storeAgg 0 ty_48 rfl rfl rfl rfl rfl rfl (by rfl) ?_)
        refine gl_nil <| gx_then <| gc_seq <| gc_drawP [0, 1, 2] true 16 rfl <| ga_first 0 (bm 17 1) rfl rfl rfl rfl (by kernel_rfl) (by kernel_rfl) ⟨[0, 1, 2], by decide, rfl⟩ (qt_rd (rd_move rfl)) ?_
        refine ga_first 1 (bm 17 3) rfl rfl rfl rfl (by kernel_rfl) (by kernel_rfl) ⟨[0, 1, 2], by decide, rfl⟩ (qt_rd (rd_move rfl)) ?_
        refine ga_first 2 (bm 17 7) rfl rfl rfl rfl (by kernel_rfl) (by kernel_rfl) ⟨[0, 1, 2], by decide, rfl⟩ (qt_rd (rd_indexOld1 hT Try.underlying25 ty_2 rfl rfl (by omega) (by omega))) ?_
        refine ga_first 3 (bm 17 15) rfl rfl rfl rfl (by kernel_rfl) (by kernel_rfl) ⟨[0, 1, 2], by decide, rfl⟩ (qt_rd (rd_load Try.underlying2 rfl rfl (ld_slN hT (get_intL hu2)))) ?_
        refine ga_first 4 (bm 17 31) rfl rfl rfl rfl (by kernel_rfl) (by kernel_rfl) ⟨[0, 1, 2], by decide, rfl⟩ (qt_rd (rd_move rfl)) ?_
        refine ga_first 5 (bm 17 63) rfl rfl rfl rfl (by kernel_rfl) (by kernel_rfl) ⟨[0, 1, 2], by decide, rfl⟩ (qt_rd (rd_leq rfl rfl)) (gk_dec (fun h83 => ?_) (fun h83 => ?_))
        · refine ga_first 6 (bm 17 127) rfl rfl rfl rfl (by kernel_rfl) (by kernel_rfl) ⟨[0, 1, 2], by decide, rfl⟩ (qt_rd (rd_move rfl)) ?_
          refine ga_firstY 7 (bm 17 255) rfl rfl rfl rfl rfl rfl (by kernel_rfl) (by kernel_rfl) ⟨[0, 1, 2], by decide, rfl⟩ (qt_rd (rd_move rfl)) ?_
          refine ga_firstY 8 (bm 17 511) rfl rfl rfl rfl rfl rfl (by kernel_rfl) (by kernel_rfl) ⟨[0, 1, 2], by decide, rfl⟩ (qt_rd (rd_move rfl)) ?_
          refine ga_firstY 9 (bm 17 1023) rfl rfl rfl rfl rfl rfl (by kernel_rfl) (by kernel_rfl) ⟨[0, 1, 2], by decide, rfl⟩ (qt_rd (rd_move rfl)) ?_
          refine ga_firstY 10 (bm 17 2047) rfl rfl rfl rfl rfl rfl (by kernel_rfl) (by kernel_rfl) ⟨[0, 1, 2], by decide, rfl⟩ (qt_rd (rd_indexOld1 hT Try.underlying25 ty_2 rfl rfl (by omega) (by omega))) ?_
          refine ga_firstY 11 (bm 17 4095) rfl rfl rfl rfl rfl rfl (by kernel_rfl) (by kernel_rfl) ⟨[0, 1, 2], by decide, rfl⟩ (qt_rd (rd_load Try.underlying2 rfl rfl (ld_slN hT (get_intL hu2)))) ?_
          refine ga_firstY 12 (bm 17 8191) rfl rfl rfl rfl rfl rfl (by kernel_rfl) (by kernel_rfl) ⟨[0, 1, 2], by decide, rfl⟩ (qt_rd (rd_fieldAddr rfl (fa_48_2 _))) ?_
          refine ga_firstY 13 (bm 17 16383) rfl rfl rfl rfl rfl rfl (by kernel_rfl) (by kernel_rfl) ⟨[0, 1, 2], by decide, rfl⟩ (qt_rd (rd_load Try.underlying2 rfl rfl (by exact ld_blk 0 rfl rfl))) ?_
          refine ga_firstY 14 (bm 17 32767) rfl rfl rfl rfl rfl rfl (by kernel_rfl) (by kernel_rfl) ⟨[0, 1, 2], by decide, rfl⟩ (qt_rd (by exact rd_add rfl rfl (by omega) (by omega))) ?_
          refine ga_firstY 15 (bm 17 65535) rfl rfl rfl rfl rfl rfl (by kernel_rfl) (by kernel_rfl) ⟨[0, 1, 2], by decide, rfl⟩ (qt_rd (rd_lss rfl rfl)) (gk_dec (fun h93 => ?_) (fun h93 => ?_))
          · refine ga_first 16 (bm 17 131071) rfl rfl rfl rfl (by kernel_rfl) (by kernel_rfl) ⟨[0, 1, 2], by decide, rfl⟩ (qt_rd (rd_pick_t rfl rfl)) ?_
            refine ga_end (by kernel_rfl) (.inr ⟨[0, 1, 2], by decide, rfl⟩) ?_
            refine gx_then <| gc_cond_t rfl <| gc_region <| gl_op <| op_rd rfl (rd_fieldAddr rfl (fa_48_1 _)) <| gl_op (op_rd rfl (rd_load Try.underlying3 rfl rfl (by exact ld_blk 0 rfl rfl)) ?_)
            refine gl_op (op_rd rfl (rd_indexArrN Try.underlying88 ty_3 rfl rfl (by omega)) ?_)
            refine gl_op <| op_rd rfl (rd_load Try.underlying3 rfl rfl (ld_blk 1 rfl (arrC_get0 hz2b))) <| gl_op (op_rd rfl (by exact rd_addN (b := 1) rfl rfl (by omega)) ?_)
            refine gl_op (op_rd rfl (rd_indexArrN Try.underlying88 ty_3 rfl rfl (by omega)) ?_)
            refine gl_op (op_store 1 ty_3 rfl rfl rfl rfl (arrC_ble hz2b) (arrC_set0 (g := fun b => crowdP l ats b (max u t) (m + 1)) hz2b (crowd_yes hz2 hu2 ⟨rfl, h83, h93⟩) (fun q hq => (crowd_no hz2 hu2 (fun e => hq e.1.symm)).symm)) (by rfl) ?_)
            refine gl_nil <| gx_block <| gx_then <| gc_region <| gl_op (op_rd rfl (by exact rd_addN (b := 1) rfl rfl (by omega)) ?_)
            refine gl_op <| op_rd rfl (rd_move rfl) <| gl_nil <| gx_then ?_
            exact gx_cut (m + 1) ⟨by omega, by omega⟩ ⟨rfl, rfl, rfl, rfl, rfl, rfl, rfl, rfl, rfl, rfl, rfl, rfl, trivial⟩ ⟨[1, 2], by decide, rfl⟩
          refine ga_first 16 (bm 17 131071) rfl rfl rfl rfl (by kernel_rfl) (by kernel_rfl) ⟨[0, 1, 2], by decide, rfl⟩ (qt_rd (rd_pick_t rfl rfl)) ?_
          refine ga_end (by kernel_rfl) (.inr ⟨[0, 1, 2], by decide, rfl⟩) ?_
          refine gx_then <| gc_cond_f rfl <| gc_skip <| gx_block <| gx_then <| gc_region <| gl_op (op_rd rfl (by exact rd_addN (b := 1) rfl rfl (by omega)) ?_)
          refine gl_op <| op_rd rfl (rd_move rfl) <| gl_nil <| gx_then ?_
          rw [show (arrC fun b => crowdP l ats b (max u t) m) = (arrC fun b => crowdP l ats b (max u t) (m + 1)) from congrArg arrC (funext fun b => (crowd_no hz2 hu2 (fun e => by omega)).symm)]
          exact gx_cut (m + 1) ⟨by omega, by omega⟩ ⟨rfl, rfl, rfl, rfl, rfl, rfl, rfl, rfl, rfl, rfl, rfl, rfl, trivial⟩ ⟨[1, 2], by decide, rfl⟩
        refine ga_first 6 (bm 17 127) rfl rfl rfl rfl (by kernel_rfl) (by kernel_rfl) ⟨[0, 1, 2], by decide, rfl⟩ (qt_rd (rd_move rfl)) ?_
        refine ga_firstN 7 (bm 17 255) rfl rfl rfl rfl rfl rfl (by kernel_rfl) (by kernel_rfl) ⟨[0, 1, 2], by decide, rfl⟩ ?_
        refine ga_firstN 8 (bm 17 511) rfl rfl rfl rfl rfl rfl (by kernel_rfl) (by kernel_rfl) ⟨[0, 1, 2], by decide, rfl⟩ ?_
        refine ga_firstN 9 (bm 17 1023) rfl rfl rfl rfl rfl rfl (by kernel_rfl) (by kernel_rfl) ⟨[0, 1, 2], by decide, rfl⟩ ?_
        refine ga_firstN 10 (bm 17 2047) rfl rfl rfl rfl rfl rfl (by kernel_rfl) (by kernel_rfl) ⟨[0, 1, 2], by decide, rfl⟩ ?_
        refine ga_firstN 11 (bm 17 4095) rfl rfl rfl rfl rfl rfl (by kernel_rfl) (by kernel_rfl) ⟨[0, 1, 2], by decide, rfl⟩ ?_
        refine ga_firstN 12 (bm 17 8191) rfl rfl rfl rfl rfl rfl (by kernel_rfl) (by kernel_rfl) ⟨[0, 1, 2], by decide, rfl⟩ ?_
        refine ga_firstN 13 (bm 17 16383) rfl rfl rfl rfl rfl rfl (by kernel_rfl) (by kernel_rfl) ⟨[0, 1, 2], by decide, rfl⟩ ?_
        refine ga_firstN 14 (bm 17 32767) rfl rfl rfl rfl rfl rfl (by kernel_rfl) (by kernel_rfl) ⟨[0, 1, 2], by decide, rfl⟩ ?_
        refine ga_firstN 15 (bm 17 65535) rfl rfl rfl rfl rfl rfl (by kernel_rfl) (by kernel_rfl) ⟨[0, 1, 2], by decide, rfl⟩ ?_
        refine ga_first 16 (bm 17 131071) rfl rfl rfl rfl (by kernel_rfl) (by kernel_rfl) ⟨[0, 1, 2], by decide, rfl⟩ (qt_rd (rd_pick_f rfl rfl)) ?_
        refine ga_end (by kernel_rfl) (.inr ⟨[0, 1, 2], by decide, rfl⟩) ?_
        refine gx_then <| gc_cond_f rfl <| gc_skip <| gx_block <| gx_then <| gc_region <| gl_op (op_rd rfl (by exact rd_addN (b := 1) rfl rfl (by omega)) ?_)
        refine gl_op <| op_rd rfl (rd_move rfl) <| gl_nil <| gx_then ?_
        rw [show (arrC fun b => crowdP l ats b (max u t) m) = (arrC fun b => crowdP l ats b (max u t) (m + 1)) from congrArg arrC (funext fun b => (crowd_no hz2 hu2 (fun e => by omega)).symm)]
        exact gx_cut (m + 1) ⟨by omega, by omega⟩ ⟨rfl, rfl, rfl, rfl, rfl, rfl, rfl, rfl, rfl, rfl, rfl, rfl, trivial⟩ ⟨[1, 2], by decide, rfl⟩
      have hm9 : m = l.length := by omega
      subst hm9
      have hxb := ben_lt hj hx
      refine gl_nil <| gx_then <| gc_seq <| gc_cond_f rfl <| gc_exit <| gx_then_exit <| gx_then_exit <| gx_block_exit <| gx_then <| gc_seq <| gc_drawP [0, 1] true 15 rfl <| ga_first 0 (bm 16 1) rfl rfl rfl rfl (by kernel_rfl) (by kernel_rfl) ⟨[0, 1], by decide, rfl⟩ (qt_rd (rd_move rfl)) ?_
      refine ga_first 1 (bm 16 3) rfl rfl rfl rfl (by kernel_rfl) (by kernel_rfl) ⟨[0, 1], by decide, rfl⟩ (qt_rd (rd_move rfl)) ?_
      refine ga_first 2 (bm 16 7) rfl rfl rfl rfl (by kernel_rfl) (by kernel_rfl) ⟨[0, 1], by decide, rfl⟩ (qt_rd (rd_indexOld hJ.t Try.underlying22 ty_48 rfl rfl (by omega) (by omega))) ?_
      refine ga_first 3 (bm 16 15) rfl rfl rfl rfl (by kernel_rfl) (by kernel_rfl) ⟨[0, 1], by decide, rfl⟩ (qt_rd (rd_fieldAddr rfl (fa_48_1 _))) ?_
      refine ga_first 4 (bm 16 31) rfl rfl rfl rfl (by kernel_rfl) (by kernel_rfl) ⟨[0, 1], by decide, rfl⟩ (qt_rd (rd_load Try.underlying3 rfl rfl (ld_slf hJ.t (get_flat Jb.cells 4 (fun _ => rfl) hx (j := 1) (by decide) rfl)))) ?_
      refine ga_first 5 (bm 16 63) rfl rfl rfl rfl (by kernel_rfl) (by kernel_rfl) ⟨[0, 1], by decide, rfl⟩ (qt_rd (rd_indexArrN Try.underlying88 ty_3 rfl rfl (by omega))) ?_
      refine ga_first 6 (bm 16 127) rfl rfl rfl rfl (by kernel_rfl) (by kernel_rfl) ⟨[0, 1], by decide, rfl⟩ (qt_rd (rd_load Try.underlying3 rfl rfl (ld_blk 0 rfl (arrC_get0 hxb)))) ?_
      refine ga_first 7 (bm 16 255) rfl rfl rfl rfl (by kernel_rfl) (by kernel_rfl) ⟨[0, 1], by decide, rfl⟩ (qt_rd (rd_move rfl)) ?_
      refine ga_first 8 (bm 16 511) rfl rfl rfl rfl (by kernel_rfl) (by kernel_rfl) ⟨[0, 1], by decide, rfl⟩ (qt_rd (rd_move rfl)) ?_
      refine ga_first 9 (bm 16 1023) rfl rfl rfl rfl (by kernel_rfl) (by kernel_rfl) ⟨[0, 1], by decide, rfl⟩ (qt_rd (rd_move rfl)) ?_
      refine ga_first 10 (bm 16 2047) rfl rfl rfl rfl (by kernel_rfl) (by kernel_rfl) ⟨[0, 1], by decide, rfl⟩ (qt_rd (rd_indexOld hJ.t Try.underlying22 ty_48 rfl rfl (by omega) (by omega))) ?_
      refine ga_first 11 (bm 16 4095) rfl rfl rfl rfl (by kernel_rfl) (by kernel_rfl) ⟨[0, 1], by decide, rfl⟩ (qt_rd (rd_fieldAddr rfl (fa_48_1 _))) ?_
      refine ga_first 12 (bm 16 8191) rfl rfl rfl rfl (by kernel_rfl) (by kernel_rfl) ⟨[0, 1], by decide, rfl⟩ (qt_rd (rd_load Try.underlying3 rfl rfl (ld_slf hJ.t (get_flat Jb.cells 4 (fun _ => rfl) hx (j := 1) (by decide) rfl)))) ?_
      refine ga_first 13 (bm 16 16383) rfl rfl rfl rfl (by kernel_rfl) (by kernel_rfl) ⟨[0, 1], by decide, rfl⟩ (qt_rd (rd_indexOld1 hS Try.underlying29 ty_3 rfl rfl (by omega) (by omega))) ?_
      refine ga_first 14 (bm 16 32767) rfl rfl rfl rfl (by kernel_rfl) (by kernel_rfl) ⟨[0, 1], by decide, rfl⟩ (qt_rd (rd_load Try.underlying3 rfl rfl (ld_slN hS (get_intL hs)))) ?_
      refine ga_first 15 (bm 16 65535) rfl rfl rfl rfl (by kernel_rfl) (by kernel_rfl) ⟨[0, 1], by decide, rfl⟩ (qt_rd (rd_gtr rfl rfl)) (gk_dec (fun h117 => ?_) (fun h117 => ?_))
      · refine ga_end (by kernel_rfl) (.inr ⟨[0, 1], by decide, rfl⟩) ?_
        refine gx_then <| gc_cond_t rfl <| gc_seq <| gc_region <| gl_op <| op_rd rfl (rd_assign rfl) <| gl_nil <| gx_then <| gc_ret <| gx_block_ret <| gx_then_ret <| gx_then_ret <| gx_block_ret <| gx_then_ret <| gx_ret1 (.inl rfl) Try.results42 rfl [] (by decide) ?_
        refine ⟨congrArg Value.bool (Eq.symm ?_), rfl⟩
        rw [← crowded_same (shop := shop) (ats := ats) hil (by rw [hr_at hx]; exact hxh.1)]
        exact any_r (k := k) (by omega) (by rw [crK_at hx hz ht hu hs]; unfold crowdI; simp; omega)
      refine ga_end (by kernel_rfl) (.inr ⟨[0, 1], by decide, rfl⟩) ?_
      refine gx_then <| gc_cond_f rfl <| gc_skip <| gx_block <| gx_then ?_
      have hno : crK shop l ats i k = false := by rw [crK_at hx hz ht hu hs]; unfold crowdI; simp; omega
      refine gc_region <| gl_op (op_rd rfl (by exact rd_addN (b := 1) rfl rfl (by omega)) ?_)
      refine gl_op <| op_rd rfl (rd_move rfl) <| gl_nil <| gx_then ?_
      exact gx_cut (k + 1) ⟨⟨by omega, snocR hall hno⟩, by omega⟩ ⟨rfl, rfl, rfl, rfl, rfl, rfl, rfl, trivial⟩ ⟨[], by decide, rfl⟩
    refine ga_first 9 (bm 40 1023) rfl rfl rfl rfl (by kernel_rfl) (by kernel_rfl) ⟨[0], by decide, rfl⟩ (qt_rd (rd_move rfl)) ?_
    refine ga_firstN 10 (bm 40 2047) rfl rfl rfl rfl rfl rfl (by kernel_rfl) (by kernel_rfl) ⟨[0], by decide, rfl⟩ ?_
    refine ga_firstN 11 (bm 40 4095) rfl rfl rfl rfl rfl rfl (by kernel_rfl) (by kernel_rfl) ⟨[0], by decide, rfl⟩ ?_
    refine ga_firstN 12 (bm 40 8191) rfl rfl rfl rfl rfl rfl (by kernel_rfl) (by kernel_rfl) ⟨[0], by decide, rfl⟩ ?_
    refine ga_firstN 13 (bm 40 16383) rfl rfl rfl rfl rfl rfl (by kernel_rfl) (by kernel_rfl) ⟨[0], by decide, rfl⟩ ?_
    refine ga_firstN 14 (bm 40 32767) rfl rfl rfl rfl rfl rfl (by kernel_rfl) (by kernel_rfl) ⟨[0], by decide, rfl⟩ ?_
    refine ga_firstN 15 (bm 40 65535) rfl rfl rfl rfl rfl rfl (by kernel_rfl) (by kernel_rfl) ⟨[0], by decide, rfl⟩ ?_
    refine ga_firstN 16 (bm 40 131071) rfl rfl rfl rfl rfl rfl (by kernel_rfl) (by kernel_rfl) ⟨[0], by decide, rfl⟩ ?_
    refine ga_firstN 17 (bm 40 262143) rfl rfl rfl rfl rfl rfl (by kernel_rfl) (by kernel_rfl) ⟨[0], by decide, rfl⟩ ?_
    refine ga_firstN 18 (bm 40 524287) rfl rfl rfl rfl rfl rfl (by kernel_rfl) (by kernel_rfl) ⟨[0], by decide, rfl⟩ ?_
    refine ga_firstN 19 (bm 40 1048575) rfl rfl rfl rfl rfl rfl (by kernel_rfl) (by kernel_rfl) ⟨[0], by decide, rfl⟩ ?_
    refine ga_firstN 20 (bm 40 2097151) rfl rfl rfl rfl rfl rfl (by kernel_rfl) (by kernel_rfl) ⟨[0], by decide, rfl⟩ ?_
    refine ga_firstN 21 (bm 40 4194303) rfl rfl rfl rfl rfl rfl (by kernel_rfl) (by kernel_rfl) ⟨[0], by decide, rfl⟩ ?_
    refine ga_first 22 (bm 40 8388607) rfl rfl rfl rfl (by kernel_rfl) (by kernel_rfl) ⟨[0], by decide, rfl⟩ (qt_rd (rd_pick_f rfl rfl)) ?_
    refine ga_first 23 (bm 40 16777215) rfl rfl rfl rfl (by kernel_rfl) (by kernel_rfl) ⟨[0], by decide, rfl⟩ (qt_rd (rd_move rfl)) ?_
    refine ga_firstY 24 (bm 40 33554431) rfl rfl rfl rfl rfl rfl (by kernel_rfl) (by kernel_rfl) ⟨[0], by decide, rfl⟩ (qt_rd (rd_move rfl)) ?_
    refine ga_firstY 25 (bm 40 67108863) rfl rfl rfl rfl rfl rfl (by kernel_rfl) (by kernel_rfl) ⟨[0], by decide, rfl⟩ (qt_rd (rd_move rfl)) ?_
    refine ga_firstY 26 (bm 40 134217727) rfl rfl rfl rfl rfl rfl (by kernel_rfl) (by kernel_rfl) ⟨[0], by decide, rfl⟩ (qt_rd (rd_indexOld1 hT Try.underlying25 ty_2 rfl rfl (by omega) (by omega))) ?_
    refine ga_firstY 27 (bm 40 268435455) rfl rfl rfl rfl rfl rfl (by kernel_rfl) (by kernel_rfl) ⟨[0], by decide, rfl⟩ (qt_rd (rd_load Try.underlying2 rfl rfl (ld_slN hT (get_intL hu)))) ?_
    refine ga_firstY 28 (bm 40 536870911) rfl rfl rfl rfl rfl rfl (by kernel_rfl) (by kernel_rfl) ⟨[0], by decide, rfl⟩ (qt_rd (rd_move rfl)) ?_
    refine ga_firstY 29 (bm 40 1073741823) rfl rfl rfl rfl rfl rfl (by kernel_rfl) (by kernel_rfl) ⟨[0], by decide, rfl⟩ (qt_rd (rd_move rfl)) ?_
    refine ga_firstY 30 (bm 40 2147483647) rfl rfl rfl rfl rfl rfl (by kernel_rfl) (by kernel_rfl) ⟨[0], by decide, rfl⟩ (qt_rd (rd_indexOld1 hT Try.underlying25 ty_2 rfl rfl (by omega) (by omega))) ?_
    refine ga_firstY 31 (bm 40 4294967295) rfl rfl rfl rfl rfl rfl (by kernel_rfl) (by kernel_rfl) ⟨[0], by decide, rfl⟩ (qt_rd (rd_load Try.underlying2 rfl rfl (ld_slN hT (get_intL ht)))) ?_
    refine ga_firstY 32 (bm 40 8589934591) rfl rfl rfl rfl rfl rfl (by kernel_rfl) (by kernel_rfl) ⟨[0], by decide, rfl⟩ (qt_rd (rd_move rfl)) ?_
    refine ga_firstY 33 (bm 40 17179869183) rfl rfl rfl rfl rfl rfl (by kernel_rfl) (by kernel_rfl) ⟨[0], by decide, rfl⟩ (qt_rd (rd_move rfl)) ?_
    refine ga_firstY 34 (bm 40 34359738367) rfl rfl rfl rfl rfl rfl (by kernel_rfl) (by kernel_rfl) ⟨[0], by decide, rfl⟩ (qt_rd (rd_indexOld hJ.t Try.underlying22 ty_48 rfl rfl (by omega) (by omega))) ?_
    refine ga_firstY 35 (bm 40 68719476735) rfl rfl rfl rfl rfl rfl (by kernel_rfl) (by kernel_rfl) ⟨[0], by decide, rfl⟩ (qt_rd (rd_fieldAddr rfl (fa_48_2 _))) ?_
    refine ga_firstY 36 (bm 40 137438953471) rfl rfl rfl rfl rfl rfl (by kernel_rfl) (by kernel_rfl) ⟨[0], by decide, rfl⟩ (qt_rd (rd_load Try.underlying2 rfl rfl (ld_slf hJ.t (get_flat Jb.cells 4 (fun _ => rfl) hx (j := 2) (by decide) rfl)))) ?_
    refine ga_firstY 37 (bm 40 274877906943) rfl rfl rfl rfl rfl rfl (by kernel_rfl) (by kernel_rfl) ⟨[0], by decide, rfl⟩ (qt_rd (by exact rd_add rfl rfl (by omega) (by omega))) ?_
    refine ga_firstY 38 (bm 40 549755813887) rfl rfl rfl rfl rfl rfl (by kernel_rfl) (by kernel_rfl) ⟨[0], by decide, rfl⟩ (qt_rd (rd_geq rfl rfl)) (gk_dec (fun h60 => ?_) (fun h60 => ?_))
    · refine ga_first 39 (bm 40 1099511627775) rfl rfl rfl rfl (by kernel_rfl) (by kernel_rfl) ⟨[0], by decide, rfl⟩ (qt_rd (rd_pick_f rfl rfl)) ?_
      refine ga_end (by kernel_rfl) (.inr ⟨[0], by decide, rfl⟩) ?_
      refine gx_then <| gc_cond_t rfl <| gc_exit <| gx_then_exit <| gx_block_exit <| gx_then ?_
      have hno : crK shop l ats i k = false := by rw [crK_at hx hz ht hu hs]; unfold crowdI; simp; omega
      refine gc_region <| gl_op (op_rd rfl (by exact rd_addN (b := 1) rfl rfl (by omega)) ?_)
      refine gl_op <| op_rd rfl (rd_move rfl) <| gl_nil <| gx_then ?_
      exact gx_cut (k + 1) ⟨⟨by omega, snocR hall hno⟩, by omega⟩ ⟨rfl, rfl, rfl, rfl, rfl, rfl, rfl, trivial⟩ ⟨[], by decide, rfl⟩
    refine ga_first 39 (bm 40 1099511627775) rfl rfl rfl rfl (by kernel_rfl) (by kernel_rfl) ⟨[0], by decide, rfl⟩ (qt_rd (rd_pick_f rfl rfl)) ?_
    refine ga_end (by kernel_rfl) (.inr ⟨[0], by decide, rfl⟩) ?_
    refine gx_then <| gc_cond_f rfl <| gc_skip <| gx_then <| gc_seq <| gc_region <| gl_op (op_alloc ty_88 rfl rfl (fun b11 => ?_))
    refine gl_nil <| gx_then <| gc_seq <| gc_drawP [0, 1] true 9 rfl <| ga_first 0 (bm 10 1) rfl rfl rfl rfl (by kernel_rfl) (by kernel_rfl) ⟨[0, 1], by decide, rfl⟩ (qt_rd (rd_move rfl)) ?_
    refine ga_first 1 (bm 10 3) rfl rfl rfl rfl (by kernel_rfl) (by kernel_rfl) ⟨[0, 1], by decide, rfl⟩ (qt_rd (rd_move rfl)) ?_
    refine ga_first 2 (bm 10 7) rfl rfl rfl rfl (by kernel_rfl) (by kernel_rfl) ⟨[0, 1], by decide, rfl⟩ (qt_rd (rd_indexOld1 hT Try.underlying25 ty_2 rfl rfl (by omega) (by omega))) ?_
    refine ga_first 3 (bm 10 15) rfl rfl rfl rfl (by kernel_rfl) (by kernel_rfl) ⟨[0, 1], by decide, rfl⟩ (qt_rd (rd_load Try.underlying2 rfl rfl (ld_slN hT (get_intL hu)))) ?_
    refine ga_first 4 (bm 10 31) rfl rfl rfl rfl (by kernel_rfl) (by kernel_rfl) ⟨[0, 1], by decide, rfl⟩ (qt_rd (rd_move rfl)) ?_
    refine ga_first 5 (bm 10 63) rfl rfl rfl rfl (by kernel_rfl) (by kernel_rfl) ⟨[0, 1], by decide, rfl⟩ (qt_rd (rd_move rfl)) ?_
    refine ga_first 6 (bm 10 127) rfl rfl rfl rfl (by kernel_rfl) (by kernel_rfl) ⟨[0, 1], by decide, rfl⟩ (qt_rd (rd_indexOld1 hT Try.underlying25 ty_2 rfl rfl (by omega) (by omega))) ?_
    refine ga_first 7 (bm 10 255) rfl rfl rfl rfl (by kernel_rfl) (by kernel_rfl) ⟨[0, 1], by decide, rfl⟩ (qt_rd (rd_load Try.underlying2 rfl rfl (ld_slN hT (get_intL ht)))) ?_
    refine ga_first 8 (bm 10 511) rfl rfl rfl rfl (by kernel_rfl) (by kernel_rfl) ⟨[0, 1], by decide, rfl⟩ (qt_rd (rd_max2 rfl rfl)) ?_
    refine ga_first 9 (bm 10 1023) rfl rfl rfl rfl (by kernel_rfl) (by kernel_rfl) ⟨[0, 1], by decide, rfl⟩ (qt_rd (rd_assign rfl)) ?_
    refine ga_end (by kernel_rfl) (.inr ⟨[0, 1], by decide, rfl⟩) ?_
    refine gx_then <| gc_seq <| gc_seq ?_
    rw [show [Value.int IntKind.i64 0, Value.int IntKind.i64 0, Value.int IntKind.i64 0, Value.int IntKind.i64 0, Value.int IntKind.i64 0, Value.int IntKind.i64 0] = arrC fun b => crowdP l ats b (max u t) 0 from rfl]
    refine gc_region <| gl_op <| op_rd rfl (rd_move rfl) <| gl_op <| op_rd rfl (rd_lenSlice Try.underlying22 rfl) <| gl_op <| op_rd rfl (rd_move rfl) <| gl_nil <| gx_then <| gc_block <| gc_loopF (ι := Nat) [(0, _), (1, _), (2, _), (3, _), (11, _), (12, _), (15, _), (16, _), (17, _), (71, _), (72, _)] [_] (fun m => m ≤ l.length) (fun m Fr0 => ((73, natV m) :: Fr0)) (fun m Fr0 => (.blk b11 (arrC fun b => crowdP l ats b (max u t) m) 88 :: Fr0)) (fun m => l.length - m) 0 (Nat.zero_le _) ⟨rfl, rfl, rfl, rfl, rfl, rfl, rfl, rfl, rfl, rfl, rfl, rfl, trivial⟩ ⟨[0, 1], by decide, rfl⟩ ?_
    rintro m hm
    refine gc_seq <| gc_region <| gl_op (op_rd rfl (rd_lss rfl rfl) (gk_dec (fun h74 => ?_) (fun h74 => ?_)))
    · obtain ⟨z2, hz2⟩ := get_some (show m < l.length by omega)
      have hz2h := job_le hj hz2
      have hz2b := ben_lt hj hz2
      obtain ⟨u2, hu2⟩ := get_some (show m < ats.length by omega)
      have hu2b := hb u2 (List.mem_of_getElem? hu2)
      have hcl := crowdP_le l ats z2.bench (max u t) m
      refine gl_nil <| gx_then <| gc_seq <| gc_cond_t rfl <| gc_skip <| gx_then <| gc_seq <| gc_block <| gc_seq <| gc_region <| gl_op <| op_rd rfl (rd_move rfl) <| gl_op (op_rd rfl (rd_indexOld hJ.t Try.underlying22 ty_48 rfl rfl (by omega) (by omega)) ?_)
      refine gl_op (op_rd rfl (rd_loadAgg Try.underlying48 rfl ty_48 rfl (cs_slN hJ.t (flat_drop_get Jb.cells 4 (fun _ => rfl) hz2)) rfl) ?_)
      refine gl_op (op_alloc ty_48 rfl rfl (fun b14 => ?_))
      refine gl_op <| op_rd rfl (rd_assign rfl) <| gl_op (op_storeAgg 0 ty_48 rfl rfl rfl rfl rfl rfl (by rfl) ?_)
      refine gl_nil <| gx_then <| gc_seq <| gc_drawP [0, 1, 2] true 16 rfl <| ga_first 0 (bm 17 1) rfl rfl rfl rfl (by kernel_rfl) (by kernel_rfl) ⟨[0, 1, 2], by decide, rfl⟩ (qt_rd (rd_move rfl)) ?_
      refine ga_first 1 (bm 17 3) rfl rfl rfl rfl (by kernel_rfl) (by kernel_rfl) ⟨[0, 1, 2], by decide, rfl⟩ (qt_rd (rd_move rfl)) ?_
      refine ga_first 2 (bm 17 7) rfl rfl rfl rfl (by kernel_rfl) (by kernel_rfl) ⟨[0, 1, 2], by decide, rfl⟩ (qt_rd (rd_indexOld1 hT Try.underlying25 ty_2 rfl rfl (by omega) (by omega))) ?_
      refine ga_first 3 (bm 17 15) rfl rfl rfl rfl (by kernel_rfl) (by kernel_rfl) ⟨[0, 1, 2], by decide, rfl⟩ (qt_rd (rd_load Try.underlying2 rfl rfl (ld_slN hT (get_intL hu2)))) ?_
      refine ga_first 4 (bm 17 31) rfl rfl rfl rfl (by kernel_rfl) (by kernel_rfl) ⟨[0, 1, 2], by decide, rfl⟩ (qt_rd (rd_move rfl)) ?_
      refine ga_first 5 (bm 17 63) rfl rfl rfl rfl (by kernel_rfl) (by kernel_rfl) ⟨[0, 1, 2], by decide, rfl⟩ (qt_rd (rd_leq rfl rfl)) (gk_dec (fun h83 => ?_) (fun h83 => ?_))
      · refine ga_first 6 (bm 17 127) rfl rfl rfl rfl (by kernel_rfl) (by kernel_rfl) ⟨[0, 1, 2], by decide, rfl⟩ (qt_rd (rd_move rfl)) ?_
        refine ga_firstY 7 (bm 17 255) rfl rfl rfl rfl rfl rfl (by kernel_rfl) (by kernel_rfl) ⟨[0, 1, 2], by decide, rfl⟩ (qt_rd (rd_move rfl)) ?_
        refine ga_firstY 8 (bm 17 511) rfl rfl rfl rfl rfl rfl (by kernel_rfl) (by kernel_rfl) ⟨[0, 1, 2], by decide, rfl⟩ (qt_rd (rd_move rfl)) ?_
        refine ga_firstY 9 (bm 17 1023) rfl rfl rfl rfl rfl rfl (by kernel_rfl) (by kernel_rfl) ⟨[0, 1, 2], by decide, rfl⟩ (qt_rd (rd_move rfl)) ?_
        refine ga_firstY 10 (bm 17 2047) rfl rfl rfl rfl rfl rfl (by kernel_rfl) (by kernel_rfl) ⟨[0, 1, 2], by decide, rfl⟩ (qt_rd (rd_indexOld1 hT Try.underlying25 ty_2 rfl rfl (by omega) (by omega))) ?_
        refine ga_firstY 11 (bm 17 4095) rfl rfl rfl rfl rfl rfl (by kernel_rfl) (by kernel_rfl) ⟨[0, 1, 2], by decide, rfl⟩ (qt_rd (rd_load Try.underlying2 rfl rfl (ld_slN hT (get_intL hu2)))) ?_
        refine ga_firstY 12 (bm 17 8191) rfl rfl rfl rfl rfl rfl (by kernel_rfl) (by kernel_rfl) ⟨[0, 1, 2], by decide, rfl⟩ (qt_rd (rd_fieldAddr rfl (fa_48_2 _))) ?_
        refine ga_firstY 13 (bm 17 16383) rfl rfl rfl rfl rfl rfl (by kernel_rfl) (by kernel_rfl) ⟨[0, 1, 2], by decide, rfl⟩ (qt_rd (rd_load Try.underlying2 rfl rfl (by exact ld_blk 0 rfl rfl))) ?_
        refine ga_firstY 14 (bm 17 32767) rfl rfl rfl rfl rfl rfl (by kernel_rfl) (by kernel_rfl) ⟨[0, 1, 2], by decide, rfl⟩ (qt_rd (by exact rd_add rfl rfl (by omega) (by omega))) ?_
        refine ga_firstY 15 (bm 17 65535) rfl rfl rfl rfl rfl rfl (by kernel_rfl) (by kernel_rfl) ⟨[0, 1, 2], by decide, rfl⟩ (qt_rd (rd_lss rfl rfl)) (gk_dec (fun h93 => ?_) (fun h93 => ?_))
        · refine ga_first 16 (bm 17 131071) rfl rfl rfl rfl (by kernel_rfl) (by kernel_rfl) ⟨[0, 1, 2], by decide, rfl⟩ (qt_rd (rd_pick_t rfl rfl)) ?_
          refine ga_end (by kernel_rfl) (.inr ⟨[0, 1, 2], by decide, rfl⟩) ?_
          refine gx_then <| gc_cond_t rfl <| gc_region <| gl_op <| op_rd rfl (rd_fieldAddr rfl (fa_48_1 _)) <| gl_op (op_rd rfl (rd_load Try.underlying3 rfl rfl (by exact ld_blk 0 rfl rfl)) ?_)
          refine gl_op (op_rd rfl (rd_indexArrN Try.underlying88 ty_3 rfl rfl (by omega)) ?_)
          refine gl_op <| op_rd rfl (rd_load Try.underlying3 rfl rfl (ld_blk 1 rfl (arrC_get0 hz2b))) <| gl_op (op_rd rfl (by exact rd_addN (b := 1) rfl rfl (by omega)) ?_)
          refine gl_op (op_rd rfl (rd_indexArrN Try.underlying88 ty_3 rfl rfl (by omega)) ?_)
          refine gl_op (op_store 1 ty_3 rfl rfl rfl rfl (arrC_ble hz2b) (arrC_set0 (g := fun b => crowdP l ats b (max u t) (m + 1)) hz2b (crowd_yes hz2 hu2 ⟨rfl, h83, h93⟩) (fun q hq => (crowd_no hz2 hu2 (fun e => hq e.1.symm)).symm)) (by rfl) ?_)
          refine gl_nil <| gx_block <| gx_then <| gc_region <| gl_op (op_rd rfl (by exact rd_addN (b := 1) rfl rfl (by omega)) ?_)
          refine gl_op <| op_rd rfl (rd_move rfl) <| gl_nil <| gx_then ?_
          exact gx_cut (m + 1) ⟨by omega, by omega⟩ ⟨rfl, rfl, rfl, rfl, rfl, rfl, rfl, rfl, rfl, rfl, rfl, rfl, trivial⟩ ⟨[1, 2], by decide, rfl⟩
        refine ga_first 16 (bm 17 131071) rfl rfl rfl rfl (by kernel_rfl) (by kernel_rfl) ⟨[0, 1, 2], by decide, rfl⟩ (qt_rd (rd_pick_t rfl rfl)) ?_
        refine ga_end (by kernel_rfl) (.inr ⟨[0, 1, 2], by decide, rfl⟩) ?_
        refine gx_then <| gc_cond_f rfl <| gc_skip <| gx_block <| gx_then <| gc_region <| gl_op (op_rd rfl (by exact rd_addN (b := 1) rfl rfl (by omega)) ?_)
        refine gl_op <| op_rd rfl (rd_move rfl) <| gl_nil <| gx_then ?_
        rw [show (arrC fun b => crowdP l ats b (max u t) m) = (arrC fun b => crowdP l ats b (max u t) (m + 1)) from congrArg arrC (funext fun b => (crowd_no hz2 hu2 (fun e => by omega)).symm)]
        exact gx_cut (m + 1) ⟨by omega, by omega⟩ ⟨rfl, rfl, rfl, rfl, rfl, rfl, rfl, rfl, rfl, rfl, rfl, rfl, trivial⟩ ⟨[1, 2], by decide, rfl⟩
      refine ga_first 6 (bm 17 127) rfl rfl rfl rfl (by kernel_rfl) (by kernel_rfl) ⟨[0, 1, 2], by decide, rfl⟩ (qt_rd (rd_move rfl)) ?_
      refine ga_firstN 7 (bm 17 255) rfl rfl rfl rfl rfl rfl (by kernel_rfl) (by kernel_rfl) ⟨[0, 1, 2], by decide, rfl⟩ ?_
      refine ga_firstN 8 (bm 17 511) rfl rfl rfl rfl rfl rfl (by kernel_rfl) (by kernel_rfl) ⟨[0, 1, 2], by decide, rfl⟩ ?_
      refine ga_firstN 9 (bm 17 1023) rfl rfl rfl rfl rfl rfl (by kernel_rfl) (by kernel_rfl) ⟨[0, 1, 2], by decide, rfl⟩ ?_
      refine ga_firstN 10 (bm 17 2047) rfl rfl rfl rfl rfl rfl (by kernel_rfl) (by kernel_rfl) ⟨[0, 1, 2], by decide, rfl⟩ ?_
      refine ga_firstN 11 (bm 17 4095) rfl rfl rfl rfl rfl rfl (by kernel_rfl) (by kernel_rfl) ⟨[0, 1, 2], by decide, rfl⟩ ?_
      refine ga_firstN 12 (bm 17 8191) rfl rfl rfl rfl rfl rfl (by kernel_rfl) (by kernel_rfl) ⟨[0, 1, 2], by decide, rfl⟩ ?_
      refine ga_firstN 13 (bm 17 16383) rfl rfl rfl rfl rfl rfl (by kernel_rfl) (by kernel_rfl) ⟨[0, 1, 2], by decide, rfl⟩ ?_
      refine ga_firstN 14 (bm 17 32767) rfl rfl rfl rfl rfl rfl (by kernel_rfl) (by kernel_rfl) ⟨[0, 1, 2], by decide, rfl⟩ ?_
      refine ga_firstN 15 (bm 17 65535) rfl rfl rfl rfl rfl rfl (by kernel_rfl) (by kernel_rfl) ⟨[0, 1, 2], by decide, rfl⟩ ?_
      refine ga_first 16 (bm 17 131071) rfl rfl rfl rfl (by kernel_rfl) (by kernel_rfl) ⟨[0, 1, 2], by decide, rfl⟩ (qt_rd (rd_pick_f rfl rfl)) ?_
      refine ga_end (by kernel_rfl) (.inr ⟨[0, 1, 2], by decide, rfl⟩) ?_
      refine gx_then <| gc_cond_f rfl <| gc_skip <| gx_block <| gx_then <| gc_region <| gl_op (op_rd rfl (by exact rd_addN (b := 1) rfl rfl (by omega)) ?_)
      refine gl_op <| op_rd rfl (rd_move rfl) <| gl_nil <| gx_then ?_
      rw [show (arrC fun b => crowdP l ats b (max u t) m) = (arrC fun b => crowdP l ats b (max u t) (m + 1)) from congrArg arrC (funext fun b => (crowd_no hz2 hu2 (fun e => by omega)).symm)]
      exact gx_cut (m + 1) ⟨by omega, by omega⟩ ⟨rfl, rfl, rfl, rfl, rfl, rfl, rfl, rfl, rfl, rfl, rfl, rfl, trivial⟩ ⟨[1, 2], by decide, rfl⟩
    have hm9 : m = l.length := by omega
    subst hm9
    have hxb := ben_lt hj hx
    refine gl_nil <| gx_then <| gc_seq <| gc_cond_f rfl <| gc_exit <| gx_then_exit <| gx_then_exit <| gx_block_exit <| gx_then <| gc_seq <| gc_drawP [0, 1] true 15 rfl <| ga_first 0 (bm 16 1) rfl rfl rfl rfl (by kernel_rfl) (by kernel_rfl) ⟨[0, 1], by decide, rfl⟩ (qt_rd (rd_move rfl)) ?_
    refine ga_first 1 (bm 16 3) rfl rfl rfl rfl (by kernel_rfl) (by kernel_rfl) ⟨[0, 1], by decide, rfl⟩ (qt_rd (rd_move rfl)) ?_
    refine ga_first 2 (bm 16 7) rfl rfl rfl rfl (by kernel_rfl) (by kernel_rfl) ⟨[0, 1], by decide, rfl⟩ (qt_rd (rd_indexOld hJ.t Try.underlying22 ty_48 rfl rfl (by omega) (by omega))) ?_
    refine ga_first 3 (bm 16 15) rfl rfl rfl rfl (by kernel_rfl) (by kernel_rfl) ⟨[0, 1], by decide, rfl⟩ (qt_rd (rd_fieldAddr rfl (fa_48_1 _))) ?_
    refine ga_first 4 (bm 16 31) rfl rfl rfl rfl (by kernel_rfl) (by kernel_rfl) ⟨[0, 1], by decide, rfl⟩ (qt_rd (rd_load Try.underlying3 rfl rfl (ld_slf hJ.t (get_flat Jb.cells 4 (fun _ => rfl) hx (j := 1) (by decide) rfl)))) ?_
    refine ga_first 5 (bm 16 63) rfl rfl rfl rfl (by kernel_rfl) (by kernel_rfl) ⟨[0, 1], by decide, rfl⟩ (qt_rd (rd_indexArrN Try.underlying88 ty_3 rfl rfl (by omega))) ?_
    refine ga_first 6 (bm 16 127) rfl rfl rfl rfl (by kernel_rfl) (by kernel_rfl) ⟨[0, 1], by decide, rfl⟩ (qt_rd (rd_load Try.underlying3 rfl rfl (ld_blk 0 rfl (arrC_get0 hxb)))) ?_
    refine ga_first 7 (bm 16 255) rfl rfl rfl rfl (by kernel_rfl) (by kernel_rfl) ⟨[0, 1], by decide, rfl⟩ (qt_rd (rd_move rfl)) ?_
    refine ga_first 8 (bm 16 511) rfl rfl rfl rfl (by kernel_rfl) (by kernel_rfl) ⟨[0, 1], by decide, rfl⟩ (qt_rd (rd_move rfl)) ?_
    refine ga_first 9 (bm 16 1023) rfl rfl rfl rfl (by kernel_rfl) (by kernel_rfl) ⟨[0, 1], by decide, rfl⟩ (qt_rd (rd_move rfl)) ?_
    refine ga_first 10 (bm 16 2047) rfl rfl rfl rfl (by kernel_rfl) (by kernel_rfl) ⟨[0, 1], by decide, rfl⟩ (qt_rd (rd_indexOld hJ.t Try.underlying22 ty_48 rfl rfl (by omega) (by omega))) ?_
    refine ga_first 11 (bm 16 4095) rfl rfl rfl rfl (by kernel_rfl) (by kernel_rfl) ⟨[0, 1], by decide, rfl⟩ (qt_rd (rd_fieldAddr rfl (fa_48_1 _))) ?_
    refine ga_first 12 (bm 16 8191) rfl rfl rfl rfl (by kernel_rfl) (by kernel_rfl) ⟨[0, 1], by decide, rfl⟩ (qt_rd (rd_load Try.underlying3 rfl rfl (ld_slf hJ.t (get_flat Jb.cells 4 (fun _ => rfl) hx (j := 1) (by decide) rfl)))) ?_
    refine ga_first 13 (bm 16 16383) rfl rfl rfl rfl (by kernel_rfl) (by kernel_rfl) ⟨[0, 1], by decide, rfl⟩ (qt_rd (rd_indexOld1 hS Try.underlying29 ty_3 rfl rfl (by omega) (by omega))) ?_
    refine ga_first 14 (bm 16 32767) rfl rfl rfl rfl (by kernel_rfl) (by kernel_rfl) ⟨[0, 1], by decide, rfl⟩ (qt_rd (rd_load Try.underlying3 rfl rfl (ld_slN hS (get_intL hs)))) ?_
    refine ga_first 15 (bm 16 65535) rfl rfl rfl rfl (by kernel_rfl) (by kernel_rfl) ⟨[0, 1], by decide, rfl⟩ (qt_rd (rd_gtr rfl rfl)) (gk_dec (fun h117 => ?_) (fun h117 => ?_))
    · refine ga_end (by kernel_rfl) (.inr ⟨[0, 1], by decide, rfl⟩) ?_
      refine gx_then <| gc_cond_t rfl <| gc_seq <| gc_region <| gl_op <| op_rd rfl (rd_assign rfl) <| gl_nil <| gx_then <| gc_ret <| gx_block_ret <| gx_then_ret <| gx_then_ret <| gx_block_ret <| gx_then_ret <| gx_ret1 (.inl rfl) Try.results42 rfl [] (by decide) ?_
      refine ⟨congrArg Value.bool (Eq.symm ?_), rfl⟩
      rw [← crowded_same (shop := shop) (ats := ats) hil (by rw [hr_at hx]; exact hxh.1)]
      exact any_r (k := k) (by omega) (by rw [crK_at hx hz ht hu hs]; unfold crowdI; simp; omega)
    refine ga_end (by kernel_rfl) (.inr ⟨[0, 1], by decide, rfl⟩) ?_
    refine gx_then <| gc_cond_f rfl <| gc_skip <| gx_block <| gx_then ?_
    have hno : crK shop l ats i k = false := by rw [crK_at hx hz ht hu hs]; unfold crowdI; simp; omega
    refine gc_region <| gl_op (op_rd rfl (by exact rd_addN (b := 1) rfl rfl (by omega)) ?_)
    refine gl_op <| op_rd rfl (rd_move rfl) <| gl_nil <| gx_then ?_
    exact gx_cut (k + 1) ⟨⟨by omega, snocR hall hno⟩, by omega⟩ ⟨rfl, rfl, rfl, rfl, rfl, rfl, rfl, trivial⟩ ⟨[], by decide, rfl⟩
  refine gl_nil <| gx_then <| gc_seq <| gc_cond_f rfl <| gc_exit <| gx_then_exit <| gx_then_exit <| gx_block_exit <| gx_then <| gc_seq <| gc_region <| gl_op <| op_rd rfl (rd_assign rfl) <| gl_nil <| gx_then <| gc_ret <| gx_ret1 (.inl rfl) Try.results42 rfl [] (by decide) ?_
  refine ⟨congrArg Value.bool (Eq.symm ?_), rfl⟩
  rw [← crowded_same (shop := shop) (ats := ats) hil (by rw [hr_at hx]; exact hxh.1)]
  exact any_n hall (by omega)
end Go.Proofs.Ytafmcflggikbfaa
namespace Go.Proofs.Ytafmcflggikbfaa
open Go.Gv
open Go.RowKit
open Go.Sn
open Go.Wk
open Sx
namespace Sx
theorem atF_eq (t : Int) : atF t = (decide (t < -1000000) || decide (1000000 < t)) := by
  unfold atF inB
  rw [Bool.eq_iff_iff]
  simp
theorem bad_eq (l : List Jb) (ats : List Int) : badAts l ats = (decide (ats.length ≠ l.length) || ats.any atF) := by
  unfold badAts
  rw [show (fun t : Int => decide (t < -1000000) || decide (1000000 < t)) = atF from funext fun t => (atF_eq t).symm]
theorem at_bd {ats : List Int} (h : ats.any atF = false) : ∀ t ∈ ats, -1099511627776 ≤ t ∧ t ≤ 1099511627776 := fun t ht => by
  have := List.any_eq_false.1 h t ht
  rw [atF_eq] at this
  simp at this
  omega
def fitsV (shop : List Int) (l : List JI) (ats : List Int) : Value :=
  if checkE l ≠ 0 then .tuple #[.bool false, .int .i64 0, .int .i64 (checkE l)]
  else if shopB shop = false ∨ badAts (nOf l) ats = true then .tuple #[.bool false, .int .i64 0, .int .i64 2]
  else .tuple #[.bool (decide (wrongP shop (nOf l) ats < 0)), .int .i64 (wrongP shop (nOf l) ats), .int .i64 0]
end Sx
open Sx
set_option maxRecDepth 100000 in
set_option maxHeartbeats 1000000 in
theorem Fits_ok (a : Option Addr) (c : Nat) (l : List JI) (hle : JsLe l)  (sa : Option Addr) (sc : Nat) (shop : List Int) (hsl : shop.length ≤ 140737488355328) (q : Option Addr) (cq : Nat) (ats : List Int) (hal : ats.length ≤ 140737488355328) (w0 : World) (hJ : JsIn a l w0 []) (hS : OldSl w0 [] sa shop.length 1 (shop.map intV)) (hT : OldSl w0 [] q ats.length 1 (ats.map intV)) : Sp Try.prog 18 [.slice sa shop.length sc, .slice a l.length c, .slice q ats.length cq] w0 [] (RV (fitsV shop l ats)) := by
  refine spec_enter Try.func18 rfl Try.ntmps18 rfl (Own.refl _) ?_
  simp only [argEnv]
  refine gc_seq <| gc_region <| gl_op <| op_rd rfl (rd_assign rfl) <| gl_op <| op_rd rfl (rd_assign rfl) <| gl_op <| op_rd rfl (rd_assign rfl) <| gl_nil <| gx_then <| gc_seq <| gc_seq <| gc_region <| gl_op <| op_rd rfl (rd_move rfl) <| gl_op (op_call rfl (vf := []) (vc := []) rfl rfl Try.call14 (fun w1 ho => Check_ok a c l hle w1 (hJ.at ho)) ?_)
  rintro _ _ ⟨rfl, rfl⟩
  refine gl_op <| op_rd rfl (rd_assign rfl) <| gl_nil <| gx_then <| gc_seq <| gc_region <| gl_op <| op_rd rfl (rd_move rfl) <| gl_op (op_rd rfl (rd_neq rfl rfl) (gk_dec (fun h14 => ?_) (fun h14 => ?_)))
  · refine gl_nil <| gx_then <| gc_cond_t rfl <| gc_seq <| gc_region <| gl_op <| op_rd rfl (rd_move rfl) <| gl_op <| op_rd rfl (rd_assign rfl) <| gl_op <| op_rd rfl (rd_assign rfl) <| gl_op <| op_rd rfl (rd_assign rfl) <| gl_nil <| gx_then <| gc_ret <| gx_then_ret <| gx_ret3 (.inl rfl) Try.results18 rfl rfl rfl [] (by decide) ?_
    exact ⟨by unfold fitsV; rw [if_pos (by omega)], rfl⟩
  have hch : checkE l = 0 := by omega
  obtain ⟨n, rfl, hg, hn⟩ := goodJ_of hch
  have hN := JnIn.of hJ
  rw [List.length_map]
  have hj := hg.ok
  have hln := hj.n
  refine gl_nil <| gx_then <| gc_cond_f rfl <| gc_skip <| gx_then <| gc_seq <| gc_seq <| gc_region <| gl_op <| op_rd rfl (rd_move rfl) <| gl_op (op_call rfl (vf := []) (vc := []) rfl rfl Try.call37 (fun w1 ho => shopped_ok sa sc shop hsl w1 (hS.at ho)) ?_)
  rintro _ _ ⟨rfl, rfl⟩
  refine gk_bool (fun hs => ?_) (fun hs => ?_)
  · refine gl_op <| op_rd rfl (rd_not rfl) <| gl_op <| op_rd rfl (rd_move rfl) <| gl_yes rfl rfl <| op_rd rfl (rd_move rfl) <| gl_yes rfl rfl <| op_rd rfl (rd_lenSlice Try.underlying25 rfl) <| gl_yes rfl rfl <| op_rd rfl (rd_move rfl) <| gl_yes rfl rfl <| op_rd rfl (rd_lenSlice Try.underlying22 rfl) <| gl_yes rfl rfl (op_rd rfl (rd_neq rfl rfl) (gk_dec (fun h24 => ?_) (fun h24 => ?_)))
    · refine gl_op <| op_rd rfl (rd_pick_f rfl rfl) <| gl_op <| op_rd rfl (rd_move rfl) <| gl_no rfl rfl rfl <| gl_no rfl rfl rfl <| gl_op <| op_rd rfl (rd_pick_t rfl rfl) <| gl_nil <| gx_then <| gc_cond_t rfl <| gc_seq <| gc_region <| gl_op <| op_rd rfl (rd_assign rfl) <| gl_op <| op_rd rfl (rd_assign rfl) <| gl_op <| op_rd rfl (rd_assign rfl) <| gl_nil <| gx_then <| gc_ret <| gx_then_ret <| gx_ret3 (.inl rfl) Try.results18 rfl rfl rfl [] (by decide) ?_
      exact ⟨by unfold fitsV; rw [if_neg (by omega), hn, if_pos (by rw [bad_eq]; (refine .inr ?_; simp; omega))], rfl⟩
    refine gl_op <| op_rd rfl (rd_pick_f rfl rfl) <| gl_op <| op_rd rfl (rd_move rfl) <| gl_yes rfl rfl <| op_rd rfl (rd_move rfl) <| gl_yes rfl rfl (op_call rfl (vf := []) (vc := []) rfl rfl Try.call38 (fun w1 ho => containsAt_ok q cq ats hal w1 (hT.at ho)) ?_)
    rintro _ _ ⟨rfl, rfl⟩
    refine gk_bool (fun hat => ?_) (fun hat => ?_)
    · refine gl_op <| op_rd rfl (rd_pick_f rfl rfl) <| gl_nil <| gx_then <| gc_cond_t rfl <| gc_seq <| gc_region <| gl_op <| op_rd rfl (rd_assign rfl) <| gl_op <| op_rd rfl (rd_assign rfl) <| gl_op <| op_rd rfl (rd_assign rfl) <| gl_nil <| gx_then <| gc_ret <| gx_then_ret <| gx_ret3 (.inl rfl) Try.results18 rfl rfl rfl [] (by decide) ?_
      exact ⟨by unfold fitsV; rw [if_neg (by omega), hn, if_pos (by rw [bad_eq]; (refine .inr ?_; rw [hat]; simp; done))], rfl⟩
    refine gl_op <| op_rd rfl (rd_pick_f rfl rfl) <| gl_nil <| gx_then <| gc_cond_f rfl <| gc_skip <| gx_then <| gc_seq <| gc_seq ?_
    have hs6 : shop.length ≤ 6 := by unfold shopB at hs; simp at hs; omega
    have hal2 : ats.length = n.length := by omega
    have hb := at_bd hat
    refine gc_region <| gl_op <| op_rd rfl (rd_move rfl) <| gl_op <| op_rd rfl (rd_lenSlice Try.underlying22 rfl) <| gl_op <| op_rd rfl (rd_move rfl) <| gl_nil <| gx_then <| gc_block <| gc_loopF (ι := Nat) [(0, _), (1, _), (2, _), (31, _)] [] (fun k => k ≤ n.length ∧ ∀ j, j < k → wrongB shop n ats j = false) (fun k Fr0 => ((32, natV k) :: Fr0)) (fun k Fr0 => Fr0) (fun k => n.length - k) 0 (⟨Nat.zero_le _, fun j h => absurd h (Nat.not_lt_zero j)⟩) ⟨rfl, rfl, rfl, rfl, rfl, trivial⟩ ⟨[], by decide, rfl⟩ ?_
    rintro k ⟨hk, hall⟩
    refine gc_seq <| gc_region <| gl_op (op_rd rfl (rd_lss rfl rfl) (gk_dec (fun h33 => ?_) (fun h33 => ?_)))
    · obtain ⟨x, hx⟩ := get_some (show k < n.length by omega)
      have hxh := job_le hj hx
      obtain ⟨t, ht⟩ := get_some (show k < ats.length by omega)
      have htb := hb t (List.mem_of_getElem? ht)
      have hab := aftI_bd hj (B := 1099511627776) (by omega) (fun t ht => (hb t ht).2) (i := k) (by omega)
      refine gl_nil <| gx_then <| gc_seq <| gc_cond_t rfl <| gc_skip <| gx_then <| gc_seq <| gc_block <| gc_seq <| gc_region <| gl_op <| op_rd rfl (rd_move rfl) <| gl_op <| op_rd rfl (rd_assign rfl) <| gl_nil <| gx_then <| gc_seq <| gc_drawP [] true 32 rfl <| ga_first 0 (bm 33 1) rfl rfl rfl rfl (by kernel_rfl) (by kernel_rfl) ⟨[], by decide, rfl⟩ (qt_rd (rd_move rfl)) ?_
      refine ga_first 1 (bm 33 3) rfl rfl rfl rfl (by kernel_rfl) (by kernel_rfl) ⟨[], by decide, rfl⟩ (qt_rd (rd_move rfl)) ?_
      refine ga_first 2 (bm 33 7) rfl rfl rfl rfl (by kernel_rfl) (by kernel_rfl) ⟨[], by decide, rfl⟩ (qt_rd (rd_indexOld1 hT Try.underlying25 ty_2 rfl rfl (by omega) (by omega))) ?_
      refine ga_first 3 (bm 33 15) rfl rfl rfl rfl (by kernel_rfl) (by kernel_rfl) ⟨[], by decide, rfl⟩ (qt_rd (rd_load Try.underlying2 rfl rfl (ld_slN hT (get_intL ht)))) ?_
      refine ga_first 4 (bm 33 31) rfl rfl rfl rfl (by kernel_rfl) (by kernel_rfl) ⟨[], by decide, rfl⟩ (qt_rd (rd_lss rfl rfl)) (gk_dec (fun h39 => ?_) (fun h39 => ?_))
      · refine ga_first 5 (bm 33 63) rfl rfl rfl rfl (by kernel_rfl) (by kernel_rfl) ⟨[], by decide, rfl⟩ (qt_rd (rd_move rfl)) ?_
        refine ga_firstN 6 (bm 33 127) rfl rfl rfl rfl rfl rfl (by kernel_rfl) (by kernel_rfl) ⟨[], by decide, rfl⟩ ?_
        refine ga_firstN 7 (bm 33 255) rfl rfl rfl rfl rfl rfl (by kernel_rfl) (by kernel_rfl) ⟨[], by decide, rfl⟩ ?_
        refine ga_firstN 8 (bm 33 511) rfl rfl rfl rfl rfl rfl (by kernel_rfl) (by kernel_rfl) ⟨[], by decide, rfl⟩ ?_
        refine ga_firstN 9 (bm 33 1023) rfl rfl rfl rfl rfl rfl (by kernel_rfl) (by kernel_rfl) ⟨[], by decide, rfl⟩ ?_
        refine ga_firstN 10 (bm 33 2047) rfl rfl rfl rfl rfl rfl (by kernel_rfl) (by kernel_rfl) ⟨[], by decide, rfl⟩ ?_
        refine ga_firstN 11 (bm 33 4095) rfl rfl rfl rfl rfl rfl (by kernel_rfl) (by kernel_rfl) ⟨[], by decide, rfl⟩ ?_
        refine ga_firstN 12 (bm 33 8191) rfl rfl rfl rfl rfl rfl (by kernel_rfl) (by kernel_rfl) ⟨[], by decide, rfl⟩ ?_
        refine ga_firstN 13 (bm 33 16383) rfl rfl rfl rfl rfl rfl (by kernel_rfl) (by kernel_rfl) ⟨[], by decide, rfl⟩ ?_
        refine ga_firstN 14 (bm 33 32767) rfl rfl rfl rfl rfl rfl (by kernel_rfl) (by kernel_rfl) ⟨[], by decide, rfl⟩ ?_
        refine ga_first 15 (bm 33 65535) rfl rfl rfl rfl (by kernel_rfl) (by kernel_rfl) ⟨[], by decide, rfl⟩ (qt_rd (rd_pick_t rfl rfl)) ?_
        refine ga_first 16 (bm 33 131071) rfl rfl rfl rfl (by kernel_rfl) (by kernel_rfl) ⟨[], by decide, rfl⟩ (qt_rd (rd_move rfl)) ?_
        refine ga_firstN 17 (bm 33 262143) rfl rfl rfl rfl rfl rfl (by kernel_rfl) (by kernel_rfl) ⟨[], by decide, rfl⟩ ?_
        refine ga_firstN 18 (bm 33 524287) rfl rfl rfl rfl rfl rfl (by kernel_rfl) (by kernel_rfl) ⟨[], by decide, rfl⟩ ?_
        refine ga_firstN 19 (bm 33 1048575) rfl rfl rfl rfl rfl rfl (by kernel_rfl) (by kernel_rfl) ⟨[], by decide, rfl⟩ ?_
        refine ga_firstN 20 (bm 33 2097151) rfl rfl rfl rfl rfl rfl (by kernel_rfl) (by kernel_rfl) ⟨[], by decide, rfl⟩ ?_
        refine ga_firstN 21 (bm 33 4194303) rfl rfl rfl rfl rfl rfl (by kernel_rfl) (by kernel_rfl) ⟨[], by decide, rfl⟩ ?_
        refine ga_firstN 22 (bm 33 8388607) rfl rfl rfl rfl rfl rfl (by kernel_rfl) (by kernel_rfl) ⟨[], by decide, rfl⟩ ?_
        refine ga_firstN 23 (bm 33 16777215) rfl rfl rfl rfl rfl rfl (by kernel_rfl) (by kernel_rfl) ⟨[], by decide, rfl⟩ ?_
        refine ga_firstN 24 (bm 33 33554431) rfl rfl rfl rfl rfl rfl (by kernel_rfl) (by kernel_rfl) ⟨[], by decide, rfl⟩ ?_
        refine ga_first 25 (bm 33 67108863) rfl rfl rfl rfl (by kernel_rfl) (by kernel_rfl) ⟨[], by decide, rfl⟩ (qt_rd (rd_pick_t rfl rfl)) ?_
        refine ga_first 26 (bm 33 134217727) rfl rfl rfl rfl (by kernel_rfl) (by kernel_rfl) ⟨[], by decide, rfl⟩ (qt_rd (rd_move rfl)) ?_
        refine ga_firstN 27 (bm 33 268435455) rfl rfl rfl rfl rfl rfl (by kernel_rfl) (by kernel_rfl) ⟨[], by decide, rfl⟩ ?_
        refine ga_firstN 28 (bm 33 536870911) rfl rfl rfl rfl rfl rfl (by kernel_rfl) (by kernel_rfl) ⟨[], by decide, rfl⟩ ?_
        refine ga_firstN 29 (bm 33 1073741823) rfl rfl rfl rfl rfl rfl (by kernel_rfl) (by kernel_rfl) ⟨[], by decide, rfl⟩ ?_
        refine ga_firstN 30 (bm 33 2147483647) rfl rfl rfl rfl rfl rfl (by kernel_rfl) (by kernel_rfl) ⟨[], by decide, rfl⟩ ?_
        refine ga_firstN 31 (bm 33 4294967295) rfl rfl rfl rfl rfl rfl (by kernel_rfl) (by kernel_rfl) ⟨[], by decide, rfl⟩ ?_
        refine ga_first 32 (bm 33 8589934591) rfl rfl rfl rfl (by kernel_rfl) (by kernel_rfl) ⟨[], by decide, rfl⟩ (qt_rd (rd_pick_t rfl rfl)) ?_
        refine ga_end (by kernel_rfl) (.inr ⟨[], by decide, rfl⟩) ?_
        refine gx_then <| gc_cond_t rfl <| gc_seq <| gc_region <| gl_op <| op_rd rfl (rd_move rfl) <| gl_op <| op_rd rfl (rd_assign rfl) <| gl_op <| op_rd rfl (rd_assign rfl) <| gl_op <| op_rd rfl (rd_assign rfl) <| gl_nil <| gx_then <| gc_ret <| gx_block_ret <| gx_then_ret <| gx_then_ret <| gx_block_ret <| gx_then_ret <| gx_ret3 (.inl rfl) Try.results18 rfl rfl rfl [] (by decide) ?_
        have hw : wrongP shop n ats = (k : Int) := wrongP_yes (by omega) hall (by rw [wrong_at hx ht]; (simp; omega))
        exact ⟨by unfold fitsV; rw [if_neg (by omega), hn, if_neg (by rw [bad_eq, hat, hs]; simp; omega), hw, decide_eq_false (by omega)], rfl⟩
      refine ga_first 5 (bm 33 63) rfl rfl rfl rfl (by kernel_rfl) (by kernel_rfl) ⟨[], by decide, rfl⟩ (qt_rd (rd_move rfl)) ?_
      refine ga_firstY 6 (bm 33 127) rfl rfl rfl rfl rfl rfl (by kernel_rfl) (by kernel_rfl) ⟨[], by decide, rfl⟩ (qt_rd (rd_move rfl)) ?_
      refine ga_firstY 7 (bm 33 255) rfl rfl rfl rfl rfl rfl (by kernel_rfl) (by kernel_rfl) ⟨[], by decide, rfl⟩ (qt_rd (rd_move rfl)) ?_
      refine ga_firstY 8 (bm 33 511) rfl rfl rfl rfl rfl rfl (by kernel_rfl) (by kernel_rfl) ⟨[], by decide, rfl⟩ (qt_rd (rd_indexOld1 hT Try.underlying25 ty_2 rfl rfl (by omega) (by omega))) ?_
      refine ga_firstY 9 (bm 33 1023) rfl rfl rfl rfl rfl rfl (by kernel_rfl) (by kernel_rfl) ⟨[], by decide, rfl⟩ (qt_rd (rd_load Try.underlying2 rfl rfl (ld_slN hT (get_intL ht)))) ?_
      refine ga_firstY 10 (bm 33 2047) rfl rfl rfl rfl rfl rfl (by kernel_rfl) (by kernel_rfl) ⟨[], by decide, rfl⟩ (qt_rd (rd_move rfl)) ?_
      refine ga_firstY 11 (bm 33 4095) rfl rfl rfl rfl rfl rfl (by kernel_rfl) (by kernel_rfl) ⟨[], by decide, rfl⟩ (qt_rd (rd_move rfl)) ?_
      refine ga_firstY 12 (bm 33 8191) rfl rfl rfl rfl rfl rfl (by kernel_rfl) (by kernel_rfl) ⟨[], by decide, rfl⟩ (qt_rd (rd_move rfl)) ?_
      refine ga_firstY 13 (bm 33 16383) rfl rfl rfl rfl rfl rfl (by kernel_rfl) (by kernel_rfl) ⟨[], by decide, rfl⟩ (qt_call (vf := []) (vc := []) rfl rfl Try.call41 (fun w1 ho => after_ok a c n hj q cq ats hal2 hb k x hx w1 (hN.at ho) (hT.at ho)) (by rintro _ _ ⟨h, _⟩; exact h)) ?_
      refine ga_firstY 14 (bm 33 32767) rfl rfl rfl rfl rfl rfl (by kernel_rfl) (by kernel_rfl) ⟨[], by decide, rfl⟩ (qt_rd (rd_lss rfl rfl)) (gk_dec (fun h49 => ?_) (fun h49 => ?_))
      · refine ga_first 15 (bm 33 65535) rfl rfl rfl rfl (by kernel_rfl) (by kernel_rfl) ⟨[], by decide, rfl⟩ (qt_rd (rd_pick_f rfl rfl)) ?_
        refine ga_first 16 (bm 33 131071) rfl rfl rfl rfl (by kernel_rfl) (by kernel_rfl) ⟨[], by decide, rfl⟩ (qt_rd (rd_move rfl)) ?_
        refine ga_firstN 17 (bm 33 262143) rfl rfl rfl rfl rfl rfl (by kernel_rfl) (by kernel_rfl) ⟨[], by decide, rfl⟩ ?_
        refine ga_firstN 18 (bm 33 524287) rfl rfl rfl rfl rfl rfl (by kernel_rfl) (by kernel_rfl) ⟨[], by decide, rfl⟩ ?_
        refine ga_firstN 19 (bm 33 1048575) rfl rfl rfl rfl rfl rfl (by kernel_rfl) (by kernel_rfl) ⟨[], by decide, rfl⟩ ?_
        refine ga_firstN 20 (bm 33 2097151) rfl rfl rfl rfl rfl rfl (by kernel_rfl) (by kernel_rfl) ⟨[], by decide, rfl⟩ ?_
        refine ga_firstN 21 (bm 33 4194303) rfl rfl rfl rfl rfl rfl (by kernel_rfl) (by kernel_rfl) ⟨[], by decide, rfl⟩ ?_
        refine ga_firstN 22 (bm 33 8388607) rfl rfl rfl rfl rfl rfl (by kernel_rfl) (by kernel_rfl) ⟨[], by decide, rfl⟩ ?_
        refine ga_firstN 23 (bm 33 16777215) rfl rfl rfl rfl rfl rfl (by kernel_rfl) (by kernel_rfl) ⟨[], by decide, rfl⟩ ?_
        refine ga_firstN 24 (bm 33 33554431) rfl rfl rfl rfl rfl rfl (by kernel_rfl) (by kernel_rfl) ⟨[], by decide, rfl⟩ ?_
        refine ga_first 25 (bm 33 67108863) rfl rfl rfl rfl (by kernel_rfl) (by kernel_rfl) ⟨[], by decide, rfl⟩ (qt_rd (rd_pick_t rfl rfl)) ?_
        refine ga_first 26 (bm 33 134217727) rfl rfl rfl rfl (by kernel_rfl) (by kernel_rfl) ⟨[], by decide, rfl⟩ (qt_rd (rd_move rfl)) ?_
        refine ga_firstN 27 (bm 33 268435455) rfl rfl rfl rfl rfl rfl (by kernel_rfl) (by kernel_rfl) ⟨[], by decide, rfl⟩ ?_
        refine ga_firstN 28 (bm 33 536870911) rfl rfl rfl rfl rfl rfl (by kernel_rfl) (by kernel_rfl) ⟨[], by decide, rfl⟩ ?_
        refine ga_firstN 29 (bm 33 1073741823) rfl rfl rfl rfl rfl rfl (by kernel_rfl) (by kernel_rfl) ⟨[], by decide, rfl⟩ ?_
        refine ga_firstN 30 (bm 33 2147483647) rfl rfl rfl rfl rfl rfl (by kernel_rfl) (by kernel_rfl) ⟨[], by decide, rfl⟩ ?_
        refine ga_firstN 31 (bm 33 4294967295) rfl rfl rfl rfl rfl rfl (by kernel_rfl) (by kernel_rfl) ⟨[], by decide, rfl⟩ ?_
        refine ga_first 32 (bm 33 8589934591) rfl rfl rfl rfl (by kernel_rfl) (by kernel_rfl) ⟨[], by decide, rfl⟩ (qt_rd (rd_pick_t rfl rfl)) ?_
        refine ga_end (by kernel_rfl) (.inr ⟨[], by decide, rfl⟩) ?_
        refine gx_then <| gc_cond_t rfl <| gc_seq <| gc_region <| gl_op <| op_rd rfl (rd_move rfl) <| gl_op <| op_rd rfl (rd_assign rfl) <| gl_op <| op_rd rfl (rd_assign rfl) <| gl_op <| op_rd rfl (rd_assign rfl) <| gl_nil <| gx_then <| gc_ret <| gx_block_ret <| gx_then_ret <| gx_then_ret <| gx_block_ret <| gx_then_ret <| gx_ret3 (.inl rfl) Try.results18 rfl rfl rfl [] (by decide) ?_
        have hw : wrongP shop n ats = (k : Int) := wrongP_yes (by omega) hall (by rw [wrong_at hx ht]; (simp; omega))
        exact ⟨by unfold fitsV; rw [if_neg (by omega), hn, if_neg (by rw [bad_eq, hat, hs]; simp; omega), hw, decide_eq_false (by omega)], rfl⟩
      refine ga_first 15 (bm 33 65535) rfl rfl rfl rfl (by kernel_rfl) (by kernel_rfl) ⟨[], by decide, rfl⟩ (qt_rd (rd_pick_f rfl rfl)) ?_
      refine ga_first 16 (bm 33 131071) rfl rfl rfl rfl (by kernel_rfl) (by kernel_rfl) ⟨[], by decide, rfl⟩ (qt_rd (rd_move rfl)) ?_
      refine ga_firstY 17 (bm 33 262143) rfl rfl rfl rfl rfl rfl (by kernel_rfl) (by kernel_rfl) ⟨[], by decide, rfl⟩ (qt_rd (rd_move rfl)) ?_
      refine ga_firstY 18 (bm 33 524287) rfl rfl rfl rfl rfl rfl (by kernel_rfl) (by kernel_rfl) ⟨[], by decide, rfl⟩ (qt_rd (rd_move rfl)) ?_
      refine ga_firstY 19 (bm 33 1048575) rfl rfl rfl rfl rfl rfl (by kernel_rfl) (by kernel_rfl) ⟨[], by decide, rfl⟩ (qt_rd (rd_indexOld hN.t Try.underlying22 ty_48 rfl rfl (by omega) (by omega))) ?_
      refine ga_firstY 20 (bm 33 2097151) rfl rfl rfl rfl rfl rfl (by kernel_rfl) (by kernel_rfl) ⟨[], by decide, rfl⟩ (qt_rd (rd_fieldAddr rfl (fa_48_1 _))) ?_
      refine ga_firstY 21 (bm 33 4194303) rfl rfl rfl rfl rfl rfl (by kernel_rfl) (by kernel_rfl) ⟨[], by decide, rfl⟩ (qt_rd (rd_load Try.underlying3 rfl rfl (ld_slf hN.t (get_flat Jb.cells 4 (fun _ => rfl) hx (j := 1) (by decide) rfl)))) ?_
      refine ga_firstY 22 (bm 33 8388607) rfl rfl rfl rfl rfl rfl (by kernel_rfl) (by kernel_rfl) ⟨[], by decide, rfl⟩ (qt_rd (rd_move rfl)) ?_
      refine ga_firstY 23 (bm 33 16777215) rfl rfl rfl rfl rfl rfl (by kernel_rfl) (by kernel_rfl) ⟨[], by decide, rfl⟩ (qt_rd (rd_lenSlice Try.underlying29 rfl)) ?_
      refine ga_firstY 24 (bm 33 33554431) rfl rfl rfl rfl rfl rfl (by kernel_rfl) (by kernel_rfl) ⟨[], by decide, rfl⟩ (qt_rd (rd_geq rfl rfl)) (gk_dec (fun h59 => ?_) (fun h59 => ?_))
      · refine ga_first 25 (bm 33 67108863) rfl rfl rfl rfl (by kernel_rfl) (by kernel_rfl) ⟨[], by decide, rfl⟩ (qt_rd (rd_pick_f rfl rfl)) ?_
        refine ga_first 26 (bm 33 134217727) rfl rfl rfl rfl (by kernel_rfl) (by kernel_rfl) ⟨[], by decide, rfl⟩ (qt_rd (rd_move rfl)) ?_
        refine ga_firstN 27 (bm 33 268435455) rfl rfl rfl rfl rfl rfl (by kernel_rfl) (by kernel_rfl) ⟨[], by decide, rfl⟩ ?_
        refine ga_firstN 28 (bm 33 536870911) rfl rfl rfl rfl rfl rfl (by kernel_rfl) (by kernel_rfl) ⟨[], by decide, rfl⟩ ?_
        refine ga_firstN 29 (bm 33 1073741823) rfl rfl rfl rfl rfl rfl (by kernel_rfl) (by kernel_rfl) ⟨[], by decide, rfl⟩ ?_
        refine ga_firstN 30 (bm 33 2147483647) rfl rfl rfl rfl rfl rfl (by kernel_rfl) (by kernel_rfl) ⟨[], by decide, rfl⟩ ?_
        refine ga_firstN 31 (bm 33 4294967295) rfl rfl rfl rfl rfl rfl (by kernel_rfl) (by kernel_rfl) ⟨[], by decide, rfl⟩ ?_
        refine ga_first 32 (bm 33 8589934591) rfl rfl rfl rfl (by kernel_rfl) (by kernel_rfl) ⟨[], by decide, rfl⟩ (qt_rd (rd_pick_t rfl rfl)) ?_
        refine ga_end (by kernel_rfl) (.inr ⟨[], by decide, rfl⟩) ?_
        refine gx_then <| gc_cond_t rfl <| gc_seq <| gc_region <| gl_op <| op_rd rfl (rd_move rfl) <| gl_op <| op_rd rfl (rd_assign rfl) <| gl_op <| op_rd rfl (rd_assign rfl) <| gl_op <| op_rd rfl (rd_assign rfl) <| gl_nil <| gx_then <| gc_ret <| gx_block_ret <| gx_then_ret <| gx_then_ret <| gx_block_ret <| gx_then_ret <| gx_ret3 (.inl rfl) Try.results18 rfl rfl rfl [] (by decide) ?_
        have hw : wrongP shop n ats = (k : Int) := wrongP_yes (by omega) hall (by rw [wrong_at hx ht]; (simp; omega))
        exact ⟨by unfold fitsV; rw [if_neg (by omega), hn, if_neg (by rw [bad_eq, hat, hs]; simp; omega), hw, decide_eq_false (by omega)], rfl⟩
      refine ga_first 25 (bm 33 67108863) rfl rfl rfl rfl (by kernel_rfl) (by kernel_rfl) ⟨[], by decide, rfl⟩ (qt_rd (rd_pick_f rfl rfl)) ?_
      refine ga_first 26 (bm 33 134217727) rfl rfl rfl rfl (by kernel_rfl) (by kernel_rfl) ⟨[], by decide, rfl⟩ (qt_rd (rd_move rfl)) ?_
      refine ga_firstY 27 (bm 33 268435455) rfl rfl rfl rfl rfl rfl (by kernel_rfl) (by kernel_rfl) ⟨[], by decide, rfl⟩ (qt_rd (rd_move rfl)) ?_
      refine ga_firstY 28 (bm 33 536870911) rfl rfl rfl rfl rfl rfl (by kernel_rfl) (by kernel_rfl) ⟨[], by decide, rfl⟩ (qt_rd (rd_move rfl)) ?_
      refine ga_firstY 29 (bm 33 1073741823) rfl rfl rfl rfl rfl rfl (by kernel_rfl) (by kernel_rfl) ⟨[], by decide, rfl⟩ (qt_rd (rd_move rfl)) ?_
      refine ga_firstY 30 (bm 33 2147483647) rfl rfl rfl rfl rfl rfl (by kernel_rfl) (by kernel_rfl) ⟨[], by decide, rfl⟩ (qt_rd (rd_move rfl)) ?_
      refine ga_firstY 31 (bm 33 4294967295) rfl rfl rfl rfl rfl rfl (by kernel_rfl) (by kernel_rfl) ⟨[], by decide, rfl⟩ (qt_call (vf := []) (vc := []) rfl rfl Try.call42 (fun w1 ho => crowded_ok a c n hj q cq ats hal2 hb sa sc shop hs6 k x hx (by omega) w1 (hN.at ho) (hT.at ho) (hS.at ho)) (by rintro _ _ ⟨h, _⟩; exact h)) ?_
      refine gk_bool (fun hc => ?_) (fun hc => ?_)
      · refine ga_first 32 (bm 33 8589934591) rfl rfl rfl rfl (by kernel_rfl) (by kernel_rfl) ⟨[], by decide, rfl⟩ (qt_rd (rd_pick_f rfl rfl)) ?_
        refine ga_end (by kernel_rfl) (.inr ⟨[], by decide, rfl⟩) ?_
        refine gx_then <| gc_cond_t rfl <| gc_seq <| gc_region <| gl_op <| op_rd rfl (rd_move rfl) <| gl_op <| op_rd rfl (rd_assign rfl) <| gl_op <| op_rd rfl (rd_assign rfl) <| gl_op <| op_rd rfl (rd_assign rfl) <| gl_nil <| gx_then <| gc_ret <| gx_block_ret <| gx_then_ret <| gx_then_ret <| gx_block_ret <| gx_then_ret <| gx_ret3 (.inl rfl) Try.results18 rfl rfl rfl [] (by decide) ?_
        have hw : wrongP shop n ats = (k : Int) := wrongP_yes (by omega) hall (by rw [wrong_at hx ht]; (rw [hc]; simp))
        exact ⟨by unfold fitsV; rw [if_neg (by omega), hn, if_neg (by rw [bad_eq, hat, hs]; simp; omega), hw, decide_eq_false (by omega)], rfl⟩
      refine ga_first 32 (bm 33 8589934591) rfl rfl rfl rfl (by kernel_rfl) (by kernel_rfl) ⟨[], by decide, rfl⟩ (qt_rd (rd_pick_f rfl rfl)) ?_
      refine ga_end (by kernel_rfl) (.inr ⟨[], by decide, rfl⟩) ?_
      refine gx_then <| gc_cond_f rfl <| gc_skip <| gx_block <| gx_then <| gc_region <| gl_op (op_rd rfl (by exact rd_addN (b := 1) rfl rfl (by omega)) ?_)
      refine gl_op <| op_rd rfl (rd_move rfl) <| gl_nil <| gx_then ?_
      exact gx_cut (k + 1) ⟨⟨by omega, snocR hall (by rw [wrong_at hx ht]; (rw [hc]; simp; omega))⟩, by omega⟩ ⟨rfl, rfl, rfl, rfl, rfl, trivial⟩ ⟨[], by decide, rfl⟩
    refine gl_nil <| gx_then <| gc_seq <| gc_cond_f rfl <| gc_exit <| gx_then_exit <| gx_then_exit <| gx_block_exit <| gx_then <| gc_seq <| gc_region <| gl_op <| op_rd rfl (rd_assign rfl) <| gl_op <| op_rd rfl (rd_assign rfl) <| gl_op <| op_rd rfl (rd_assign rfl) <| gl_nil <| gx_then <| gc_ret <| gx_ret3 (.inl rfl) Try.results18 rfl rfl rfl [] (by decide) ?_
    exact ⟨by unfold fitsV; rw [if_neg (by omega), hn, if_neg (by rw [bad_eq, hat, hs]; simp; omega), wrongP_no fun j hj => hall j (by omega)]; rfl, rfl⟩
  refine gl_op <| op_rd rfl (rd_not rfl) <| gl_op <| op_rd rfl (rd_move rfl) <| gl_no rfl rfl rfl <| gl_no rfl rfl rfl <| gl_no rfl rfl rfl <| gl_no rfl rfl rfl <| gl_no rfl rfl rfl <| gl_op <| op_rd rfl (rd_pick_t rfl rfl) <| gl_op <| op_rd rfl (rd_move rfl) <| gl_no rfl rfl rfl <| gl_no rfl rfl rfl <| gl_op <| op_rd rfl (rd_pick_t rfl rfl) <| gl_nil <| gx_then <| gc_cond_t rfl <| gc_seq <| gc_region <| gl_op <| op_rd rfl (rd_assign rfl) <| gl_op <| op_rd rfl (rd_assign rfl) <| gl_op <| op_rd rfl (rd_assign rfl) <| gl_nil <| gx_then <| gc_ret <| gx_then_ret <| gx_ret3 (.inl rfl) Try.results18 rfl rfl rfl [] (by decide) ?_
  exact ⟨by unfold fitsV; rw [if_neg (by omega), hn, if_pos (by rw [bad_eq]; exact .inl hs)], rfl⟩
end Go.Proofs.Ytafmcflggikbfaa
namespace Go.Wk
open Go.Gv
open Go.Sn
/-! # Placing a job: the first free hour -/
/-- placed jobs and their hours -/
structure Plc where
  at_ : List Nat
  is : List Bool
def plB (p : Plc) (i : Nat) : Bool := p.is.getD i false
def atN (p : Plc) (i : Nat) : Nat := p.at_.getD i 0
def runQ (l : List Jb) (p : Plc) (b h i : Nat) : Bool := plB p i && decide (bn l i = b) && decide (atN p i ≤ h) && decide (h < atN p i + hr l i)
def cntQ (l : List Jb) (p : Plc) (b h k : Nat) : Nat := ((List.range k).filter (runQ l p b h)).length
def cntA (l : List Jb) (p : Plc) (b h : Nat) : Nat := cntQ l p b h l.length
theorem cntQ_next (l : List Jb) (p : Plc) (b h k : Nat) : cntQ l p b h (k + 1) = cntQ l p b h k + if runQ l p b h k = true then 1 else 0 := by
  unfold cntQ
  rw [List.range_succ, List.filter_append, List.length_append]
  congr 1
  by_cases e : runQ l p b h k = true
  · simp [e]
  · simp [e]
theorem cntQ_le (l : List Jb) (p : Plc) (b h k : Nat) : cntQ l p b h k ≤ k := by
  unfold cntQ
  exact Nat.le_trans (List.length_filter_le _ _) (by simp)
theorem filt_le {f g : Nat → Bool} : ∀ l : List Nat, (∀ x ∈ l, f x = true → g x = true) → (l.filter f).length ≤ (l.filter g).length
  | [], _ => Nat.le_refl _
  | x :: l, h => by
    have ih := filt_le l fun y hy => h y (List.mem_cons_of_mem _ hy)
    have hx := h x List.mem_cons_self
    rw [List.filter_cons, List.filter_cons]
    cases hf : f x with
    | false =>
      simp only [Bool.false_eq_true, if_false]
      split
      · rw [List.length_cons]; omega
      · exact ih
    | true => rw [if_pos (rfl : true = true), if_pos (hx hf), List.length_cons, List.length_cons]; omega
theorem cnt_le_of {l : List Jb} {p : Plc} {b h h' : Nat} (hh : h' ≤ h) (hn : ∀ k, k < l.length → plB p k = true → bn l k = b → atN p k ≤ h → atN p k ≤ h') : cntA l p b h ≤ cntA l p b h' := by
  unfold cntA cntQ
  refine filt_le _ fun k hk hf => ?_
  unfold runQ at hf ⊢
  simp only [Bool.and_eq_true, decide_eq_true_eq] at hf ⊢
  exact ⟨⟨⟨hf.1.1.1, hf.1.1.2⟩, hn k (List.mem_range.1 hk) hf.1.1.1 hf.1.1.2 hf.1.2⟩, by omega⟩
/-- a job may begin: in no hour of its run are the benches full -/
def Free (shop : List Int) (l : List Jb) (p : Plc) (i t : Nat) : Prop := ∀ h, t ≤ h → h < t + hr l i → (cntA l p (bn l i) h : Int) < sb shop (bn l i)
def freeB (shop : List Int) (l : List Jb) (p : Plc) (i t : Nat) : Bool := (List.range (hr l i)).all fun d => decide ((cntA l p (bn l i) (t + d) : Int) < sb shop (bn l i))
theorem freeB_iff {shop : List Int} {l : List Jb} {p : Plc} {i t : Nat} : freeB shop l p i t = true ↔ Free shop l p i t := by
  unfold freeB Free
  rw [List.all_eq_true]
  constructor
  · intro h q h1 h2
    have := h (q - t) (List.mem_range.2 (by omega))
    rw [decide_eq_true_eq, show t + (q - t) = q by omega] at this
    exact this
  · intro h d hd
    have := List.mem_range.1 hd
    exact decide_eq_true (h (t + d) (by omega) (by omega))
/-- the hours that the program looks at -/
theorem free_of_starts {shop : List Int} {l : List Jb} {p : Plc} {i t : Nat} (h0 : (cntA l p (bn l i) t : Int) < sb shop (bn l i)) (h1 : ∀ k, k < l.length → plB p k = true → t < atN p k → atN p k < t + hr l i → (cntA l p (bn l i) (atN p k) : Int) < sb shop (bn l i)) : Free shop l p i t := fun h hl hu => by
  -- the last beginning up to h
  have key : ∃ h', h' ≤ h ∧ t ≤ h' ∧ (h' = t ∨ ∃ k, k < l.length ∧ plB p k = true ∧ t < atN p k ∧ atN p k = h') ∧ ∀ k, k < l.length → plB p k = true → atN p k ≤ h → atN p k ≤ h' := by
    have aux : ∀ m, m ≤ l.length → ∃ h', h' ≤ h ∧ t ≤ h' ∧ (h' = t ∨ ∃ k, k < l.length ∧ plB p k = true ∧ t < atN p k ∧ atN p k = h') ∧ ∀ k, k < m → plB p k = true → atN p k ≤ h → atN p k ≤ h' := by
      intro m
      induction m with
      | zero => exact fun _ => ⟨t, hl, Nat.le_refl _, .inl rfl, fun k hk => absurd hk (Nat.not_lt_zero k)⟩
      | succ m ih =>
        intro hm
        obtain ⟨h', a1, a2, a3, a4⟩ := ih (by omega)
        by_cases hc : plB p m = true ∧ atN p m ≤ h ∧ h' < atN p m
        · refine ⟨atN p m, hc.2.1, by omega, .inr ⟨m, by omega, hc.1, by omega, rfl⟩, fun k hk hp hle => ?_⟩
          rcases Nat.lt_or_eq_of_le (Nat.le_of_lt_succ hk) with h9 | rfl
          · have := a4 k h9 hp hle; omega
          · exact Nat.le_refl _
        · refine ⟨h', a1, a2, a3, fun k hk hp hle => ?_⟩
          rcases Nat.lt_or_eq_of_le (Nat.le_of_lt_succ hk) with h9 | rfl
          · exact a4 k h9 hp hle
          · apply Classical.byContradiction
            intro hno
            exact hc ⟨hp, hle, by omega⟩
    exact aux l.length (Nat.le_refl _)
  obtain ⟨h', a1, a2, a3, a4⟩ := key
  have hc := cnt_le_of (l := l) (p := p) (b := bn l i) a1 fun k hk hp _ hle => a4 k hk hp hle
  rcases a3 with rfl | ⟨k, hk, hp, hlt, he⟩
  · omega
  · have := h1 k hk hp hlt (by omega)
    rw [he] at this
    omega
/-! ## the least of the free hours -/
def mn (o : Option Nat) (t : Nat) : Option Nat := match o with
  | none => some t
  | some b => some (min b t)
def bestS (f : Nat → Bool) (o : Option Nat) (t : Nat) : Option Nat := if f t = true then mn o t else o
def bestF (f : Nat → Bool) (ts : List Nat) : Option Nat := ts.foldl (bestS f) none
def IsBest (f : Nat → Bool) (ts : List Nat) (o : Option Nat) : Prop := match o with
  | none => ∀ t ∈ ts, f t = false
  | some b => b ∈ ts ∧ f b = true ∧ ∀ t ∈ ts, f t = true → b ≤ t
theorem bestF_is (f : Nat → Bool) (ts : List Nat) : IsBest f ts (bestF f ts) := by
  have aux : ∀ (ts us : List Nat) (o : Option Nat), IsBest f us o → IsBest f (us ++ ts) (ts.foldl (bestS f) o) := by
    intro ts
    induction ts with
    | nil => intro us o h; rw [List.append_nil]; exact h
    | cons t ts ih =>
      intro us o h
      rw [List.foldl_cons, show us ++ t :: ts = (us ++ [t]) ++ ts by simp]
      refine ih (us ++ [t]) _ ?_
      unfold bestS
      cases hf : f t with
      | false =>
        simp only [Bool.false_eq_true, if_false]
        cases o with
        | none =>
          intro x hx
          rcases List.mem_append.1 hx with hx | hx
          · exact h x hx
          · rw [List.mem_singleton.1 hx]; exact hf
        | some b =>
          obtain ⟨h1, h2, h3⟩ := h
          refine ⟨List.mem_append_left _ h1, h2, fun x hx hfx => ?_⟩
          rcases List.mem_append.1 hx with hx | hx
          · exact h3 x hx hfx
          · rw [List.mem_singleton.1 hx, hf] at hfx; cases hfx
      | true =>
        simp only [if_true]
        cases o with
        | none =>
          refine ⟨List.mem_append_right _ List.mem_cons_self, hf, fun x hx hfx => ?_⟩
          rcases List.mem_append.1 hx with hx | hx
          · rw [h x hx] at hfx; cases hfx
          · rw [List.mem_singleton.1 hx]; exact Nat.le_refl _
        | some b =>
          obtain ⟨h1, h2, h3⟩ := h
          show IsBest f (us ++ [t]) (some (min b t))
          refine ⟨?_, ?_, fun x hx hfx => ?_⟩
          · rcases Nat.le_total b t with h9 | h9
            · rw [Nat.min_eq_left h9]; exact List.mem_append_left _ h1
            · rw [Nat.min_eq_right h9]; exact List.mem_append_right _ List.mem_cons_self
          · rcases Nat.le_total b t with h9 | h9
            · rw [Nat.min_eq_left h9]; exact h2
            · rw [Nat.min_eq_right h9]; exact hf
          · rcases List.mem_append.1 hx with hx | hx
            · have := h3 x hx hfx; omega
            · rw [List.mem_singleton.1 hx]; exact Nat.min_le_right _ _
  have := aux ts [] none (fun t ht => by cases ht)
  simpa [bestF] using this
theorem isBest_eq {f : Nat → Bool} {ts us : List Nat} {o o' : Option Nat} (hm : ∀ t, t ∈ ts ↔ t ∈ us) (h : IsBest f ts o) (h' : IsBest f us o') : o = o' := by
  cases o with
  | none =>
    cases o' with
    | none => rfl
    | some b =>
      obtain ⟨h1, h2, _⟩ := h'
      rw [h b ((hm b).2 h1)] at h2; cases h2
  | some b =>
    obtain ⟨h1, h2, h3⟩ := h
    cases o' with
    | none => rw [h' b ((hm b).1 h1)] at h2; cases h2
    | some b' =>
      obtain ⟨h4, h5, h6⟩ := h'
      have e1 := h3 b' ((hm b').2 h4) h5
      have e2 := h6 b ((hm b).1 h1) h2
      congr 1
      omega
/-- in an ascending list the first that is free is the least -/
theorem sorted_best {f : Nat → Bool} : ∀ {ts : List Nat}, ts.Pairwise (· ≤ ·) → IsBest f ts (ts.find? f)
  | [], _ => fun t ht => by cases ht
  | t :: ts, h => by
    obtain ⟨h1, h2⟩ := List.pairwise_cons.1 h
    rw [List.find?_cons]
    cases hf : f t with
    | true => exact ⟨List.mem_cons_self, hf, fun x hx _ => by
        rcases List.mem_cons.1 hx with rfl | hx
        · exact Nat.le_refl _
        · exact h1 x hx⟩
    | false =>
      have ih := sorted_best (f := f) h2
      cases hq : ts.find? f with
      | none =>
        rw [hq] at ih
        intro x hx
        rcases List.mem_cons.1 hx with rfl | hx
        · exact hf
        · exact ih x hx
      | some b =>
        rw [hq] at ih
        obtain ⟨a1, a2, a3⟩ := ih
        refine ⟨List.mem_cons_of_mem _ a1, a2, fun x hx hfx => ?_⟩
        rcases List.mem_cons.1 hx with rfl | hx
        · rw [hf] at hfx; cases hfx
        · exact a3 x hx hfx
/-! ## the hours looked at -/
def endP1 (l : List Jb) (p : Plc) (k : Nat) : Nat := atN p k + hr l k
def aftP1 (l : List Jb) (p : Plc) (i : Nat) : Nat := aft l p.at_ i
def candS (l : List Jb) (p : Plc) (i k : Nat) : List Nat := ((List.range k).filter fun q => plB p q && decide (aftP1 l p i < endP1 l p q)).map (endP1 l p)
def cand (l : List Jb) (p : Plc) (i k : Nat) : List Nat := aftP1 l p i :: candS l p i k
theorem cand_yes {l : List Jb} {p : Plc} {i k : Nat} (h1 : plB p k = true) (h2 : aftP1 l p i < endP1 l p k) : cand l p i (k + 1) = cand l p i k ++ [endP1 l p k] := by
  unfold cand candS
  rw [List.range_succ, List.filter_append, List.map_append]
  simp [h1, h2]
theorem cand_no {l : List Jb} {p : Plc} {i k : Nat} (h : ¬ (plB p k = true ∧ aftP1 l p i < endP1 l p k)) : cand l p i (k + 1) = cand l p i k := by
  unfold cand candS
  rw [List.range_succ, List.filter_append, List.map_append]
  have : (plB p k && decide (aftP1 l p i < endP1 l p k)) = false := by
    cases h1 : plB p k with
    | false => rfl
    | true => simp only [Bool.true_and, decide_eq_false_iff_not]; exact fun h2 => h ⟨h1, h2⟩
  simp [this]
theorem cand_len (l : List Jb) (p : Plc) (i k : Nat) : (cand l p i k).length ≤ k + 1 := by
  unfold cand candS
  rw [List.length_cons, List.length_map]
  have := List.length_filter_le (fun q => plB p q && decide (aftP1 l p i < endP1 l p q)) (List.range k)
  rw [List.length_range] at this
  omega
def placeO (shop : List Int) (l : List Jb) (p : Plc) (i : Nat) : Option Nat := bestF (freeB shop l p i) (cand l p i l.length)
def placeF (shop : List Int) (l : List Jb) (p : Plc) (i : Nat) : Nat := (placeO shop l p i).getD (aftP1 l p i)
/-- there is a free hour among those that are looked at -/
theorem place_some {shop : List Int} {l : List Jb} {p : Plc} {i : Nat} (hs : 1 ≤ sb shop (bn l i)) (hh : ∀ k, k < l.length → 1 ≤ hr l k) : (placeO shop l p i).isSome = true := by
  have hb := bestF_is (freeB shop l p i) (cand l p i l.length)
  cases ho : placeO shop l p i with
  | some b => rfl
  | none =>
    unfold placeO at ho
    rw [ho] at hb
    -- the last of the hours is free
    have key : ∀ m, m ≤ l.length → ∃ t ∈ cand l p i m, ∀ k, k < m → plB p k = true → endP1 l p k ≤ t := by
      intro m
      induction m with
      | zero => exact fun _ => ⟨aftP1 l p i, List.mem_cons_self, fun k hk => absurd hk (Nat.not_lt_zero k)⟩
      | succ m ih =>
        intro hm
        obtain ⟨t, ht, hmax⟩ := ih (by omega)
        by_cases hc : plB p m = true ∧ aftP1 l p i < endP1 l p m
        · rw [cand_yes hc.1 hc.2]
          rcases Nat.le_total t (endP1 l p m) with h9 | h9
          · refine ⟨endP1 l p m, List.mem_append_right _ List.mem_cons_self, fun k hk hp => ?_⟩
            rcases Nat.lt_or_eq_of_le (Nat.le_of_lt_succ hk) with h8 | rfl
            · have := hmax k h8 hp; omega
            · exact Nat.le_refl _
          · refine ⟨t, List.mem_append_left _ ht, fun k hk hp => ?_⟩
            rcases Nat.lt_or_eq_of_le (Nat.le_of_lt_succ hk) with h8 | rfl
            · exact hmax k h8 hp
            · exact h9
        · rw [cand_no hc]
          refine ⟨t, ht, fun k hk hp => ?_⟩
          rcases Nat.lt_or_eq_of_le (Nat.le_of_lt_succ hk) with h8 | rfl
          · exact hmax k h8 hp
          · have h7 : aftP1 l p i ≤ t := by
              rcases List.mem_cons.1 ht with h6 | h6
              · omega
              · unfold candS at h6
                obtain ⟨q, hq, he⟩ := List.mem_map.1 h6
                have := (List.mem_filter.1 hq).2
                simp only [Bool.and_eq_true, decide_eq_true_eq] at this
                omega
            have : ¬ aftP1 l p i < endP1 l p k := fun h5 => hc ⟨hp, h5⟩
            omega
    obtain ⟨t, ht, hmax⟩ := key l.length (Nat.le_refl _)
    have hf : freeB shop l p i t = true := by
      rw [freeB_iff]
      intro h h1 h2
      have hz : cntA l p (bn l i) h = 0 := by
        unfold cntA cntQ
        rw [List.length_eq_zero_iff, List.filter_eq_nil_iff]
        intro k hk hr'
        unfold runQ at hr'
        simp only [Bool.and_eq_true, decide_eq_true_eq] at hr'
        have := hmax k (List.mem_range.1 hk) hr'.1.1.1
        unfold endP1 at this
        omega
      omega
    rw [hb t ht] at hf; cases hf
end Go.Wk
namespace Go.Wk
open Go.Gv
open Go.Sn
/-! # The search: all leaves, the best of them, what may be left out -/
def pput (p : Plc) (i t : Nat) : Plc := ⟨p.at_.set i t, p.is.set i true⟩
def readyB (l : List Jb) (p : Plc) (i : Nat) : Bool := !plB p i && (preOf l i).all (plB p)
def nextP (shop : List Int) (l : List Jb) (p : Plc) (i : Nat) : Plc := pput p i (placeF shop l p i)
def leaves (shop : List Int) (l : List Jb) : Nat → Plc → List (List Nat)
  | 0, p => [p.at_]
  | r + 1, p => (List.range l.length).flatMap fun i => if readyB l p i = true then leaves shop l r (nextP shop l p i) else []
def leavesI (shop : List Int) (l : List Jb) (r : Nat) (p : Plc) (k : Nat) : List (List Nat) := (List.range k).flatMap fun i => if readyB l p i = true then leaves shop l r (nextP shop l p i) else []
theorem leavesI_yes {shop : List Int} {l : List Jb} {r : Nat} {p : Plc} {k : Nat} (h : readyB l p k = true) : leavesI shop l r p (k + 1) = leavesI shop l r p k ++ leaves shop l r (nextP shop l p k) := by
  unfold leavesI
  rw [List.range_succ, List.flatMap_append]
  simp [h]
theorem leavesI_no {shop : List Int} {l : List Jb} {r : Nat} {p : Plc} {k : Nat} (h : readyB l p k = false) : leavesI shop l r p (k + 1) = leavesI shop l r p k := by
  unfold leavesI
  rw [List.range_succ, List.flatMap_append]
  simp [h]
def lexB : List Nat → List Nat → Bool
  | a :: asL, b :: bs => if a = b then lexB asL bs else decide (a < b)
  | _, _ => false
def bet (l : List Jb) (b g : List Nat) : Bool := decide (endF l g < endF l b) || (decide (endF l g = endF l b) && lexB g b)
def upd (l : List Jb) (o : Option (List Nat)) (g : List Nat) : Option (List Nat) := match o with
  | none => some g
  | some b => if bet l b g = true then some g else some b
def p0 (l : List Jb) : Plc := ⟨List.replicate l.length 0, List.replicate l.length false⟩
def planO (shop : List Int) (l : List Jb) : Option (List Nat) := (leaves shop l l.length (p0 l)).foldl (upd l) none
/-! ## what holds of the jobs that are placed -/
def soS (l : List Jb) (p : Plc) (t i : Nat) : Nat := if plB p i = true then max t (endP1 l p i) else t
def soP (l : List Jb) (p : Plc) : Nat := (List.range l.length).foldl (soS l p) 0
theorem soS_le {l : List Jb} {p : Plc} : ∀ (is : List Nat) (t b : Nat), is.foldl (soS l p) t ≤ b ↔ t ≤ b ∧ ∀ i ∈ is, plB p i = true → endP1 l p i ≤ b
  | [], t, b => by simp
  | i :: is, t, b => by
    rw [List.foldl_cons, soS_le is]
    unfold soS
    simp only [List.mem_cons, forall_eq_or_imp]
    cases h : plB p i with
    | false => simp
    | true =>
      simp only [if_true]
      constructor
      · rintro ⟨h1, h2⟩; exact ⟨by omega, fun _ => by omega, h2⟩
      · rintro ⟨h1, h2, h3⟩
        have := h2 trivial
        exact ⟨by omega, h3⟩
theorem soP_le {l : List Jb} {p : Plc} {b : Nat} : soP l p ≤ b ↔ ∀ i, i < l.length → plB p i = true → endP1 l p i ≤ b := by
  unfold soP
  rw [soS_le]
  simp
theorem le_soP {l : List Jb} {p : Plc} {i : Nat} (hi : i < l.length) (h : plB p i = true) : endP1 l p i ≤ soP l p := soP_le.1 (Nat.le_refl _) i hi h
structure PlOk (l : List Jb) (r : Nat) (p : Plc) : Prop where
  la : p.at_.length = l.length
  li : p.is.length = l.length
  cnt : ((List.range l.length).filter (plB p)).length + r = l.length
  zero : ∀ i, plB p i = false → atN p i = 0
  bd : soP l p + 2000 * r ≤ 2000 * l.length
section
variable {shop : List Int} {l : List Jb} {r : Nat} {p : Plc}
theorem plB_out (hl : p.is.length = l.length) {i : Nat} (hi : l.length ≤ i) : plB p i = false := by
  unfold plB
  rw [List.getD_eq_getElem?_getD, List.getElem?_eq_none (by omega)]; rfl
theorem plB_put {i t : Nat} (hi : i < p.is.length) (j : Nat) : plB (pput p i t) j = (decide (i = j) || plB p j) := by
  unfold plB pput
  rw [getD_set _ _ _ _ hi]
  by_cases e : i = j
  · simp [e]
  · simp [e]
theorem atN_put {i t : Nat} (hi : i < p.at_.length) (j : Nat) : atN (pput p i t) j = if i = j then t else atN p j := by
  unfold atN pput
  exact getD_setN _ _ _ _ hi
theorem soP_put (hla : p.at_.length = l.length) (hli : p.is.length = l.length) {i t : Nat} (hi : i < l.length) (hp : plB p i = false) : soP l (pput p i t) = max (soP l p) (t + hr l i) := by
  apply Nat.le_antisymm
  · rw [soP_le]
    intro j hj hpj
    unfold endP1
    rw [plB_put (by omega)] at hpj
    rw [atN_put (by omega)]
    split
    · rename_i e; subst e; omega
    · rename_i e
      simp only [e, decide_false, Bool.false_or] at hpj
      have := le_soP hj hpj
      unfold endP1 at this
      omega
  · refine Nat.max_le.2 ⟨?_, ?_⟩
    · rw [soP_le]
      intro j hj hpj
      have hne : i ≠ j := fun e => by rw [e, hpj] at hp; cases hp
      have := le_soP (p := pput p i t) hj (by rw [plB_put (by omega), hpj, Bool.or_true])
      unfold endP1 at this ⊢
      rw [atN_put (by omega), if_neg hne] at this
      exact this
    · have := le_soP (p := pput p i t) hi (by rw [plB_put (by omega)]; simp)
      unfold endP1 at this
      rw [atN_put (by omega), if_pos rfl] at this
      exact this
theorem cnt_put (hli : p.is.length = l.length) {i t : Nat} (hi : i < l.length) (hp : plB p i = false) : ((List.range l.length).filter (plB (pput p i t))).length = ((List.range l.length).filter (plB p)).length + 1 :=
  filter_one (a := i) List.nodup_range (List.mem_range.2 hi) (by rw [plB_put (by omega)]; simp) hp fun j hj => by rw [plB_put (by omega), decide_eq_false (fun e => hj e.symm), Bool.false_or]
theorem ready_of {k : Nat} (h : readyB l p k = true) : plB p k = false ∧ ∀ q ∈ preOf l k, plB p q = true := by
  unfold readyB at h
  simp only [Bool.and_eq_true, Bool.not_eq_true', List.all_eq_true] at h
  exact h
theorem aft_so (hj : JOk l) {i : Nat} (hi : i < l.length) (h : ∀ q ∈ preOf l i, plB p q = true) : aftP1 l p i ≤ soP l p + 1000 := by
  unfold aftP1
  rw [aft_le]
  intro a ha
  have h1 := hj.job i hi a ha
  have h2 := le_soP h1.1 (h a.1 (List.mem_map_of_mem ha))
  unfold endP1 atN at h2
  omega
theorem place_so (hj : JOk l) {i : Nat} (hi : i < l.length) (h : ∀ q ∈ preOf l i, plB p q = true) : placeF shop l p i ≤ soP l p + 1000 := by
  unfold placeF
  cases ho : placeO shop l p i with
  | none => exact aft_so hj hi h
  | some b =>
    show b ≤ _
    have hb := bestF_is (freeB shop l p i) (cand l p i l.length)
    unfold placeO at ho
    rw [ho] at hb
    rcases List.mem_cons.1 hb.1 with e | hm
    · rw [e]; exact aft_so hj hi h
    · unfold candS at hm
      obtain ⟨q, hq, he⟩ := List.mem_map.1 hm
      obtain ⟨hq1, hq2⟩ := List.mem_filter.1 hq
      simp only [Bool.and_eq_true, decide_eq_true_eq] at hq2
      have := le_soP (List.mem_range.1 hq1) hq2.1
      omega
theorem PlOk.next (hj : JOk l) (h : PlOk l (r + 1) p) {i : Nat} (hi : i < l.length) (hrd : readyB l p i = true) : PlOk l r (nextP shop l p i) := by
  obtain ⟨h1, h2⟩ := ready_of hrd
  have hh := hr_bd hj i
  have hp := place_so (shop := shop) hj hi h2
  have hb := h.bd
  have hc := h.cnt
  refine ⟨by unfold nextP pput; rw [List.length_set]; exact h.la, by unfold nextP pput; rw [List.length_set]; exact h.li, ?_, fun j hjp => ?_, ?_⟩
  · unfold nextP; rw [cnt_put h.li hi h1]; omega
  · unfold nextP at hjp ⊢
    rw [plB_put (by rw [h.li]; exact hi)] at hjp
    simp only [Bool.or_eq_false_iff, decide_eq_false_iff_not] at hjp
    rw [atN_put (by rw [h.la]; exact hi), if_neg hjp.1]
    exact h.zero j hjp.2
  · unfold nextP; rw [soP_put h.la h.li hi h1]; omega
theorem PlOk.start : PlOk l l.length (p0 l) := by
  have hp : ∀ i, plB (p0 l) i = false := fun i => by
    unfold plB p0
    rw [List.getD_eq_getElem?_getD, List.getElem?_replicate]
    split <;> rfl
  refine ⟨by simp [p0], by simp [p0], ?_, fun i _ => ?_, ?_⟩
  · rw [List.filter_eq_nil_iff.2 (fun i _ => by rw [hp i]; decide)]; simp
  · unfold atN p0
    rw [List.getD_eq_getElem?_getD, List.getElem?_replicate]
    split <;> rfl
  · have : soP l (p0 l) ≤ 0 := soP_le.2 fun i _ h => by rw [hp i] at h; cases h
    omega
theorem PlOk.all (h : PlOk l 0 p) : ∀ i, i < l.length → plB p i = true := fun i hi => by
  have hc := h.cnt
  cases hp : plB p i with
  | true => rfl
  | false =>
    exfalso
    have h1 : ((List.range l.length).filter (plB p)).length < (List.range l.length).length := by
      apply Classical.byContradiction
      intro hno
      have h2 := List.length_filter_le (plB p) (List.range l.length)
      have h3 : ((List.range l.length).filter (plB p)).length = (List.range l.length).length := by omega
      rw [List.length_filter_eq_length_iff] at h3
      rw [h3 i (List.mem_range.2 hi)] at hp; cases hp
    rw [List.length_range] at h1
    omega
theorem PlOk.end (h : PlOk l 0 p) : endF l p.at_ = soP l p := by
  apply Nat.le_antisymm
  · rw [endF_le]
    intro i hi
    exact le_soP hi (h.all i hi)
  · rw [soP_le]
    intro i hi _
    exact le_endF hi
/-- a leaf keeps what is placed -/
theorem leaf_keep (hj : JOk l) : ∀ (r : Nat) (p : Plc), PlOk l r p → ∀ g ∈ leaves shop l r p, g.length = l.length ∧ ∀ j, j < l.length → plB p j = true → g.getD j 0 = atN p j
  | 0, p, h, g, hg => by
    rw [List.mem_singleton.1 hg]
    exact ⟨h.la, fun j _ _ => rfl⟩
  | r + 1, p, h, g, hg => by
    obtain ⟨i, hi, hgi⟩ := List.mem_flatMap.1 hg
    have hi := List.mem_range.1 hi
    split at hgi
    · rename_i hrd
      have hrd : readyB l p i = true := hrd
      obtain ⟨h1, _⟩ := ready_of hrd
      obtain ⟨h2, h3⟩ := leaf_keep hj r _ (h.next hj hi hrd) g hgi
      refine ⟨h2, fun j hjl hp => ?_⟩
      have hne : i ≠ j := fun e => by rw [e, hp] at h1; cases h1
      rw [h3 j hjl (by unfold nextP; rw [plB_put (by rw [h.li]; exact hi), hp, Bool.or_true])]
      unfold nextP
      rw [atN_put (by rw [h.la]; exact hi), if_neg hne]
    · cases hgi
theorem leaf_so (hj : JOk l) (h : PlOk l r p) {g : List Nat} (hg : g ∈ leaves shop l r p) : soP l p ≤ endF l g := by
  obtain ⟨h1, h2⟩ := leaf_keep hj r p h g hg
  rw [soP_le]
  intro j hjl hp
  have := le_endF (l := l) (g := g) hjl
  rw [h2 j hjl hp] at this
  exact this
theorem bet_no {b g : List Nat} (h : endF l b < endF l g) : bet l b g = false := by
  unfold bet
  rw [decide_eq_false (by omega), decide_eq_false (by omega)]; rfl
theorem fold_no {b : List Nat} : ∀ gs : List (List Nat), (∀ g ∈ gs, endF l b < endF l g) → gs.foldl (upd l) (some b) = some b
  | [], _ => rfl
  | g :: gs, h => by
    rw [List.foldl_cons]
    have e : upd l (some b) g = some b := by
      unfold upd
      simp only
      rw [bet_no (h g List.mem_cons_self)]; rfl
    rw [e]
    exact fold_no gs fun g hg => h g (List.mem_cons_of_mem _ hg)
/-- nothing is lost when a subtree that is too late is left out -/
theorem prune (hj : JOk l) (h : PlOk l r p) {b : List Nat} (hb : endF l b < soP l p) : (leaves shop l r p).foldl (upd l) (some b) = some b :=
  fold_no _ fun g hg => Nat.lt_of_lt_of_le hb (leaf_so hj h hg)
/-- there is a job to place -/
theorem ready_ex (hg : GoodJ l) (h : PlOk l (r + 1) p) : ∃ i, i < l.length ∧ readyB l p i = true := by
  obtain ⟨o, ho, hf⟩ := hg.ord
  have hex : ∃ k : Nat, k < o.length ∧ ∃ x : Nat, o[k]? = some x ∧ plB p x = false := by
    apply Classical.byContradiction
    intro hno
    have hall : ∀ i, i < l.length → plB p i = true := fun i hi => by
      obtain ⟨k, hk⟩ := List.getElem?_of_mem (full_of_len ho.nodup ho.lt hf i hi)
      cases hp : plB p i with
      | true => rfl
      | false => exact absurd ⟨k, (List.getElem?_eq_some_iff.1 hk).1, i, hk, hp⟩ hno
    have hc := h.cnt
    rw [List.filter_eq_self.2 fun i hi => hall i (List.mem_range.1 hi), List.length_range] at hc
    omega
  have hmin : ∀ m : Nat, (∀ k : Nat, k < m → ∀ x : Nat, o[k]? = some x → plB p x = true) ∨ ∃ (k x : Nat), o[k]? = some x ∧ plB p x = false ∧ ∀ q : Nat, q < k → ∀ y : Nat, o[q]? = some y → plB p y = true := by
    intro m
    induction m with
    | zero => exact .inl fun k hk => absurd hk (Nat.not_lt_zero k)
    | succ m ih =>
      rcases ih with ih | ih
      · cases hx : o[m]? with
        | none =>
          refine .inl fun k hk x hkx => ?_
          rcases Nat.lt_or_eq_of_le (Nat.le_of_lt_succ hk) with h9 | rfl
          · exact ih k h9 x hkx
          · rw [hx] at hkx; cases hkx
        | some x =>
          cases hp : plB p x with
          | false => exact .inr ⟨m, x, hx, hp, ih⟩
          | true =>
            refine .inl fun k hk y hky => ?_
            rcases Nat.lt_or_eq_of_le (Nat.le_of_lt_succ hk) with h9 | rfl
            · exact ih k h9 y hky
            · rw [hx] at hky; rw [← Option.some.inj hky]; exact hp
      · exact .inr ih
  obtain ⟨k0, hk0, x0, hx0, hp0⟩ := hex
  rcases hmin o.length with hm | ⟨k, x, hx, hp, hall⟩
  · rw [hm k0 hk0 x0 hx0] at hp0; cases hp0
  · refine ⟨x, ho.lt x (List.mem_of_getElem? hx), ?_⟩
    unfold readyB
    rw [hp]
    simp only [Bool.not_false, Bool.true_and, List.all_eq_true]
    intro q hq
    have h1 := ho.topo k x hx q hq
    obtain ⟨m, hm⟩ := List.getElem?_of_mem h1
    rw [List.getElem?_take] at hm
    split at hm
    · rename_i hmk; exact hall m hmk q hm
    · cases hm
theorem leaves_ne (hg : GoodJ l) : ∀ (r : Nat) (p : Plc), PlOk l r p → leaves shop l r p ≠ []
  | 0, p, _ => by unfold leaves; simp
  | r + 1, p, h => by
    obtain ⟨i, hi, hrd⟩ := ready_ex hg h
    intro he
    have h1 : ∃ g, g ∈ leaves shop l r (nextP shop l p i) := List.exists_mem_of_ne_nil _ (leaves_ne hg r _ (h.next hg.ok hi hrd))
    obtain ⟨g, hgm⟩ := h1
    have : g ∈ leaves shop l (r + 1) p := List.mem_flatMap.2 ⟨i, List.mem_range.2 hi, by rw [if_pos hrd]; exact hgm⟩
    rw [he] at this; cases this
theorem fold_some : ∀ (gs : List (List Nat)) (o : Option (List Nat)), gs ≠ [] ∨ o.isSome = true → (gs.foldl (upd l) o).isSome = true
  | [], o, h => by
    rcases h with h | h
    · exact absurd rfl h
    · exact h
  | g :: gs, o, _ => by
    rw [List.foldl_cons]
    refine fold_some gs _ (.inr ?_)
    unfold upd
    cases o with
    | none => rfl
    | some b => simp only; split <;> rfl
theorem fold_mem : ∀ (gs : List (List Nat)) (o : Option (List Nat)) (b : List Nat), gs.foldl (upd l) o = some b → b ∈ gs ∨ o = some b
  | [], o, b, h => .inr h
  | g :: gs, o, b, h => by
    rw [List.foldl_cons] at h
    rcases fold_mem gs _ b h with h1 | h1
    · exact .inl (List.mem_cons_of_mem _ h1)
    · unfold upd at h1
      cases o with
      | none => exact .inl (by rw [← Option.some.inj h1]; exact List.mem_cons_self)
      | some c =>
        simp only at h1
        split at h1
        · exact .inl (by rw [← Option.some.inj h1]; exact List.mem_cons_self)
        · exact .inr h1
theorem plan_some (hg : GoodJ l) : ∃ b, planO shop l = some b ∧ b ∈ leaves shop l l.length (p0 l) := by
  have h := fold_some (l := l) (leaves shop l l.length (p0 l)) none (.inl (leaves_ne hg _ _ PlOk.start))
  obtain ⟨b, hb⟩ := Option.isSome_iff_exists.1 h
  refine ⟨b, hb, ?_⟩
  rcases fold_mem _ _ _ hb with h1 | h1
  · exact h1
  · cases h1
end
end Go.Wk
namespace Go.Proofs.Ytafmcflggikbfaa
open Go.Gv
open Go.RowKit
open Go.Sn
open Go.Wk
open Sx
namespace Sx
theorem get_atQ {p : Plc} {k : Nat} (h : k < p.at_.length) : (p.at_.map natV)[k]? = some (natV (atN p k)) := get_natL h
theorem get_plQ {p : Plc} {k : Nat} (h : k < p.is.length) : (p.is.map boolV)[k]? = some (.bool (plB p k)) := get_bool h
theorem cnt_yes {l : List Jb} {p : Plc} {b h k : Nat} {z : Jb} (hz : l[k]? = some z) (h1 : plB p k = true) (h2 : z.bench = b ∧ atN p k ≤ h ∧ h < atN p k + z.hours) : cntQ l p b h (k + 1) = cntQ l p b h k + 1 := by
  rw [cntQ_next, if_pos]
  unfold runQ
  rw [bn_at hz, hr_at hz, h1]
  simp only [Bool.true_and, Bool.and_eq_true, decide_eq_true_eq]
  exact ⟨⟨h2.1, h2.2.1⟩, h2.2.2⟩
theorem cnt_no {l : List Jb} {p : Plc} {b h k : Nat} {z : Jb} (hz : l[k]? = some z) (h2 : plB p k = false ∨ ¬ (z.bench = b ∧ atN p k ≤ h ∧ h < atN p k + z.hours)) : cntQ l p b h (k + 1) = cntQ l p b h k := by
  rw [cntQ_next, if_neg, Nat.add_zero]
  unfold runQ
  rw [bn_at hz, hr_at hz]
  simp only [Bool.and_eq_true, decide_eq_true_eq]
  rintro ⟨⟨⟨h3, h4⟩, h5⟩, h6⟩
  rcases h2 with h2 | h2
  · rw [h3] at h2; cases h2
  · exact h2 ⟨h4, h5, h6⟩
theorem sb_at {shop : List Int} {l : List Jb} {i : Nat} {x : Jb} {s : Int} (hx : l[i]? = some x) (hs : shop[x.bench]? = some s) : sb shop (bn l i) = s := by
  unfold sb; rw [bn_at hx]; exact getD_some hs
theorem free_no {shop : List Int} {l : List Jb} {p : Plc} {i t h : Nat} (h1 : t ≤ h) (h2 : h < t + hr l i) (h3 : sb shop (bn l i) ≤ (cntA l p (bn l i) h : Int)) : freeB shop l p i t = false := by
  cases hf : freeB shop l p i t with
  | false => rfl
  | true => have := freeB_iff.1 hf h h1 h2; omega
theorem jump {l : List Jb} {p : Plc} {b h nx : Nat} {s : Int} (hc : (cntA l p b h : Int) < s) (hn : ∀ q, q < l.length → plB p q = true → bn l q = b → h < atN p q → nx ≤ atN p q) : ∀ q, h ≤ q → q < nx → (cntA l p b q : Int) < s := fun q h1 h2 => by
  have := cnt_le_of (l := l) (p := p) (b := b) h1 fun k hk hp hb hle => by
    apply Classical.byContradiction
    intro hno
    have := hn k hk hp hb (by omega)
    omega
  omega
end Sx
open Sx
set_option maxRecDepth 100000 in
set_option maxHeartbeats 1000000 in
theorem free_ok (a : Option Addr) (c : Nat) (l : List Jb) (hj : JOk l) (sa : Option Addr) (sc : Nat) (shop : List Int) (hsl : shop.length ≤ 6) (p : Plc) (hla : p.at_.length = l.length) (hli : p.is.length = l.length) (hpb : ∀ j, atN p j ≤ 100000) (i : Nat) (x : Jb) (hx : l[i]? = some x) (hxs : x.bench < shop.length) (t : Nat) (htb : t ≤ 200000) (qa : Option Addr) (ca : Nat) (qb : Option Addr) (cb : Nat) (w0 : World) (hJ : JnIn a l w0 []) (hS : OldSl w0 [] sa shop.length 1 (shop.map intV)) (hA : OldSl w0 [] qa p.at_.length 1 (p.at_.map natV)) (hB : OldSl w0 [] qb p.is.length 1 (p.is.map boolV)) (bp : Nat) (v4 v5 : Value) (hP : OldSl w0 [] (some ⟨bp, 0, none⟩) 1 6 [.slice sa shop.length sc, .slice a l.length c, .slice qa p.at_.length ca, .slice qb p.is.length cb, v4, v5]) : Sp Try.prog 74 [.pointer (some ⟨bp, 0, none⟩), natV i, natV t] w0 [] (RV (.bool (freeB shop l p i t))) := by
  have hln := hj.n
  have hil := (List.getElem?_eq_some_iff.1 hx).1
  have hxh := job_le hj hx
  obtain ⟨s, hs⟩ := get_some hxs
  have hsb := sb_at hx hs
  have hbn := bn_at hx
  have hhr := hr_at hx
  refine spec_enter Try.func74 rfl Try.ntmps74 rfl (Own.refl _) ?_
  simp only [argEnv]
  refine gc_seq <| gc_region <| gl_op <| op_rd rfl (rd_assign rfl) <| gl_nil <| gx_then <| gc_seq <| gc_region <| gl_op <| op_rd rfl (rd_move rfl) <| gl_op <| op_rd rfl (rd_move rfl) <| gl_op <| op_rd rfl (rd_nilCheck rfl) <| gl_op <| op_rd rfl (rd_fieldAddr rfl (fa_76_1 _)) <| gl_op <| op_rd rfl (rd_load Try.underlying22 rfl rfl (ld_sl hP rfl)) <| gl_op <| op_rd rfl (rd_move rfl) <| gl_op (op_rd rfl (rd_indexOld hJ.t Try.underlying22 ty_48 rfl rfl (by omega) (by omega)) ?_)
  refine gl_op <| op_rd rfl (rd_fieldAddr rfl (fa_48_2 _)) <| gl_op (op_rd rfl (rd_load Try.underlying2 rfl rfl (ld_slf hJ.t (get_flat Jb.cells 4 (fun _ => rfl) hx (j := 2) (by decide) rfl))) ?_)
  refine gl_op (op_rd rfl (by exact rd_addN rfl rfl (by omega)) ?_)
  refine gl_op <| op_rd rfl (rd_assign rfl) <| gl_nil <| gx_then <| gc_seq <| gc_seq <| gc_region <| gl_op <| op_rd rfl (rd_assign rfl) <| gl_nil <| gx_then <| gc_block <| gc_loopF (ι := Nat) [(0, _), (1, _), (2, _), (7, _)] [] (fun k0 => k0 ≤ l.length + 1 ∧ (0 < k0 → (cntA l p x.bench t : Int) < s) ∧ ∀ q, q + 1 < k0 → plB p q = true → t < atN p q → atN p q < t + x.hours → (cntA l p x.bench (atN p q) : Int) < s) (fun k0 Fr0 => ((8, .int .i64 ((k0 : Int) - 1)) :: Fr0)) (fun k0 Fr0 => Fr0) (fun k0 => l.length + 1 - k0) 0 (⟨Nat.zero_le _, fun h => absurd h (Nat.lt_irrefl 0), fun q hq => by omega⟩) ⟨rfl, rfl, rfl, rfl, rfl, trivial⟩ ⟨[], by decide, rfl⟩ ?_
  rintro k0 ⟨hk0, hz0, hall⟩
  refine gc_seq <| gc_seq <| gc_region <| gl_op <| op_rd rfl (rd_move rfl) <| gl_op <| op_rd rfl (rd_move rfl) <| gl_op <| op_rd rfl (rd_nilCheck rfl) <| gl_op <| op_rd rfl (rd_fieldAddr rfl (fa_76_1 _)) <| gl_op <| op_rd rfl (rd_load Try.underlying22 rfl rfl (ld_sl hP rfl)) <| gl_op <| op_rd rfl (rd_lenSlice Try.underlying22 rfl) <| gl_op (op_rd rfl (rd_lss rfl rfl) (gk_dec (fun h29 => ?_) (fun h29 => ?_)))
  · refine gl_nil <| gx_then <| gc_cond_t rfl <| gc_skip <| gx_then <| gc_seq <| gc_block <| gc_seq ?_
    rcases Nat.eq_zero_or_pos k0 with hkz | hkz
    · refine gc_region <| gl_op <| op_rd rfl (rd_move rfl) <| gl_op <| op_rd rfl (rd_assign rfl) <| gl_nil <| gx_then <| gc_seq <| gc_seq <| gc_region <| gl_op <| op_rd rfl (rd_move rfl) <| gl_op (op_rd rfl (rd_geq rfl rfl) (gk_dec (fun h34 => ?_) (fun h34 => ?_)))
      · omega
      refine gl_nil <| gx_then <| gc_cond_f rfl <| gc_skip <| gx_then <| gc_seq <| gc_region <| gl_op <| op_rd rfl (rd_assign rfl) <| gl_nil <| gx_then <| gc_seq <| gc_seq <| gc_region <| gl_op <| op_rd rfl (rd_move rfl) <| gl_op <| op_rd rfl (rd_nilCheck rfl) <| gl_op <| op_rd rfl (rd_fieldAddr rfl (fa_76_1 _)) <| gl_op <| op_rd rfl (rd_load Try.underlying22 rfl rfl (ld_sl hP rfl)) <| gl_op <| op_rd rfl (rd_lenSlice Try.underlying22 rfl) <| gl_op <| op_rd rfl (rd_move rfl) <| gl_nil <| gx_then <| gc_block <| gc_loopF (ι := Nat) [(0, _), (1, _), (2, _), (7, _), (8, _), (9, _), (63, _), (64, _)] [] (fun k => k ≤ l.length) (fun k Fr0 => ((10, natV (cntQ l p x.bench (t) k)) :: (65, natV k) :: Fr0)) (fun k Fr0 => Fr0) (fun k => l.length - k) 0 (Nat.zero_le _) ⟨rfl, rfl, rfl, rfl, rfl, rfl, rfl, rfl, rfl, rfl, trivial⟩ ⟨[], by decide, rfl⟩ ?_
      rintro k hk
      refine gc_seq <| gc_region <| gl_op (op_rd rfl (rd_lss rfl rfl) (gk_dec (fun h66 => ?_) (fun h66 => ?_)))
      · obtain ⟨z, hz⟩ := get_some (show k < l.length by omega)
        have hzh := job_le hj hz
        have hkb := hpb k
        have hcl := cntQ_le l p x.bench t k
        have hzb := bn_at hz
        have hzr := hr_at hz
        refine gl_nil <| gx_then <| gc_seq <| gc_cond_t rfl <| gc_skip <| gx_then <| gc_seq <| gc_block <| gc_seq <| gc_region <| gl_op <| op_rd rfl (rd_move rfl) <| gl_op (op_rd rfl (rd_indexOld hJ.t Try.underlying22 ty_48 rfl rfl (by omega) (by omega)) ?_)
        refine gl_op (op_rd rfl (rd_loadAgg Try.underlying48 rfl ty_48 rfl (cs_slN hJ.t (flat_drop_get Jb.cells 4 (fun _ => rfl) hz)) rfl) ?_)
        refine gl_op (op_alloc ty_48 rfl rfl (fun b12 => ?_))
        refine gl_op <| op_rd rfl (rd_assign rfl) <| gl_op (op_storeAgg 0 ty_48 rfl rfl rfl rfl rfl rfl (by rfl) ?_)
        refine gl_nil <| gx_then <| gc_seq <| gc_drawP [0] true 44 rfl <| ga_first 0 (bm 45 1) rfl rfl rfl rfl (by kernel_rfl) (by kernel_rfl) ⟨[0], by decide, rfl⟩ (qt_rd (rd_move rfl)) ?_
        refine ga_first 1 (bm 45 3) rfl rfl rfl rfl (by kernel_rfl) (by kernel_rfl) ⟨[0], by decide, rfl⟩ (qt_rd (rd_nilCheck rfl)) ?_
        refine ga_first 2 (bm 45 7) rfl rfl rfl rfl (by kernel_rfl) (by kernel_rfl) ⟨[0], by decide, rfl⟩ (qt_rd (rd_fieldAddr rfl (fa_76_3 _))) ?_
        refine ga_first 3 (bm 45 15) rfl rfl rfl rfl (by kernel_rfl) (by kernel_rfl) ⟨[0], by decide, rfl⟩ (qt_rd (rd_load Try.underlying74 rfl rfl (ld_sl hP rfl))) ?_
        refine ga_first 4 (bm 45 31) rfl rfl rfl rfl (by kernel_rfl) (by kernel_rfl) ⟨[0], by decide, rfl⟩ (qt_rd (rd_move rfl)) ?_
        refine ga_first 5 (bm 45 63) rfl rfl rfl rfl (by kernel_rfl) (by kernel_rfl) ⟨[0], by decide, rfl⟩ (qt_rd (rd_indexOld1 hB Try.underlying74 ty_4 rfl rfl (by omega) (by omega))) ?_
        refine ga_first 6 (bm 45 127) rfl rfl rfl rfl (by kernel_rfl) (by kernel_rfl) ⟨[0], by decide, rfl⟩ (qt_rd (rd_load Try.underlying4 rfl rfl (ld_slN hB (get_plQ (k := k) (by omega))))) ?_
        refine gk_bool (fun h76 => ?_) (fun h76 => ?_)
        · refine ga_first 7 (bm 45 255) rfl rfl rfl rfl (by kernel_rfl) (by kernel_rfl) ⟨[0], by decide, rfl⟩ (qt_rd (rd_move rfl)) ?_
          refine ga_firstY 8 (bm 45 511) rfl rfl rfl rfl rfl rfl (by kernel_rfl) (by kernel_rfl) ⟨[0], by decide, rfl⟩ (qt_rd (rd_fieldAddr rfl (fa_48_1 _))) ?_
          refine ga_firstY 9 (bm 45 1023) rfl rfl rfl rfl rfl rfl (by kernel_rfl) (by kernel_rfl) ⟨[0], by decide, rfl⟩ (qt_rd (rd_load Try.underlying3 rfl rfl (by exact ld_blk 0 rfl rfl))) ?_
          refine ga_firstY 10 (bm 45 2047) rfl rfl rfl rfl rfl rfl (by kernel_rfl) (by kernel_rfl) ⟨[0], by decide, rfl⟩ (qt_rd (rd_move rfl)) ?_
          refine ga_firstY 11 (bm 45 4095) rfl rfl rfl rfl rfl rfl (by kernel_rfl) (by kernel_rfl) ⟨[0], by decide, rfl⟩ (qt_rd (rd_nilCheck rfl)) ?_
          refine ga_firstY 12 (bm 45 8191) rfl rfl rfl rfl rfl rfl (by kernel_rfl) (by kernel_rfl) ⟨[0], by decide, rfl⟩ (qt_rd (rd_fieldAddr rfl (fa_76_1 _))) ?_
          refine ga_firstY 13 (bm 45 16383) rfl rfl rfl rfl rfl rfl (by kernel_rfl) (by kernel_rfl) ⟨[0], by decide, rfl⟩ (qt_rd (rd_load Try.underlying22 rfl rfl (ld_sl hP rfl))) ?_
          refine ga_firstY 14 (bm 45 32767) rfl rfl rfl rfl rfl rfl (by kernel_rfl) (by kernel_rfl) ⟨[0], by decide, rfl⟩ (qt_rd (rd_move rfl)) ?_
          refine ga_firstY 15 (bm 45 65535) rfl rfl rfl rfl rfl rfl (by kernel_rfl) (by kernel_rfl) ⟨[0], by decide, rfl⟩ (qt_rd (rd_indexOld hJ.t Try.underlying22 ty_48 rfl rfl (by omega) (by omega))) ?_
          refine ga_firstY 16 (bm 45 131071) rfl rfl rfl rfl rfl rfl (by kernel_rfl) (by kernel_rfl) ⟨[0], by decide, rfl⟩ (qt_rd (rd_fieldAddr rfl (fa_48_1 _))) ?_
          refine ga_firstY 17 (bm 45 262143) rfl rfl rfl rfl rfl rfl (by kernel_rfl) (by kernel_rfl) ⟨[0], by decide, rfl⟩ (qt_rd (rd_load Try.underlying3 rfl rfl (ld_slf hJ.t (get_flat Jb.cells 4 (fun _ => rfl) hx (j := 1) (by decide) rfl)))) ?_
          refine ga_firstY 18 (bm 45 524287) rfl rfl rfl rfl rfl rfl (by kernel_rfl) (by kernel_rfl) ⟨[0], by decide, rfl⟩ (qt_rd (rd_eql rfl rfl)) (gk_dec (fun h88 => ?_) (fun h88 => ?_))
          · refine ga_first 19 (bm 45 1048575) rfl rfl rfl rfl (by kernel_rfl) (by kernel_rfl) ⟨[0], by decide, rfl⟩ (qt_rd (rd_pick_t rfl rfl)) ?_
            refine ga_first 20 (bm 45 2097151) rfl rfl rfl rfl (by kernel_rfl) (by kernel_rfl) ⟨[0], by decide, rfl⟩ (qt_rd (rd_move rfl)) ?_
            refine ga_firstY 21 (bm 45 4194303) rfl rfl rfl rfl rfl rfl (by kernel_rfl) (by kernel_rfl) ⟨[0], by decide, rfl⟩ (qt_rd (rd_move rfl)) ?_
            refine ga_firstY 22 (bm 45 8388607) rfl rfl rfl rfl rfl rfl (by kernel_rfl) (by kernel_rfl) ⟨[0], by decide, rfl⟩ (qt_rd (rd_nilCheck rfl)) ?_
            refine ga_firstY 23 (bm 45 16777215) rfl rfl rfl rfl rfl rfl (by kernel_rfl) (by kernel_rfl) ⟨[0], by decide, rfl⟩ (qt_rd (rd_fieldAddr rfl (fa_76_2 _))) ?_
            refine ga_firstY 24 (bm 45 33554431) rfl rfl rfl rfl rfl rfl (by kernel_rfl) (by kernel_rfl) ⟨[0], by decide, rfl⟩ (qt_rd (rd_load Try.underlying25 rfl rfl (ld_sl hP rfl))) ?_
            refine ga_firstY 25 (bm 45 67108863) rfl rfl rfl rfl rfl rfl (by kernel_rfl) (by kernel_rfl) ⟨[0], by decide, rfl⟩ (qt_rd (rd_move rfl)) ?_
            refine ga_firstY 26 (bm 45 134217727) rfl rfl rfl rfl rfl rfl (by kernel_rfl) (by kernel_rfl) ⟨[0], by decide, rfl⟩ (qt_rd (rd_indexOld1 hA Try.underlying25 ty_2 rfl rfl (by omega) (by omega))) ?_
            refine ga_firstY 27 (bm 45 268435455) rfl rfl rfl rfl rfl rfl (by kernel_rfl) (by kernel_rfl) ⟨[0], by decide, rfl⟩ (qt_rd (rd_load Try.underlying2 rfl rfl (ld_slN hA (get_atQ (k := k) (by omega))))) ?_
            refine ga_firstY 28 (bm 45 536870911) rfl rfl rfl rfl rfl rfl (by kernel_rfl) (by kernel_rfl) ⟨[0], by decide, rfl⟩ (qt_rd (rd_move rfl)) ?_
            refine ga_firstY 29 (bm 45 1073741823) rfl rfl rfl rfl rfl rfl (by kernel_rfl) (by kernel_rfl) ⟨[0], by decide, rfl⟩ (qt_rd (rd_leq rfl rfl)) (gk_dec (fun h99 => ?_) (fun h99 => ?_))
            · refine ga_first 30 (bm 45 2147483647) rfl rfl rfl rfl (by kernel_rfl) (by kernel_rfl) ⟨[0], by decide, rfl⟩ (qt_rd (rd_pick_t rfl rfl)) ?_
              refine ga_first 31 (bm 45 4294967295) rfl rfl rfl rfl (by kernel_rfl) (by kernel_rfl) ⟨[0], by decide, rfl⟩ (qt_rd (rd_move rfl)) ?_
              refine ga_firstY 32 (bm 45 8589934591) rfl rfl rfl rfl rfl rfl (by kernel_rfl) (by kernel_rfl) ⟨[0], by decide, rfl⟩ (qt_rd (rd_move rfl)) ?_
              refine ga_firstY 33 (bm 45 17179869183) rfl rfl rfl rfl rfl rfl (by kernel_rfl) (by kernel_rfl) ⟨[0], by decide, rfl⟩ (qt_rd (rd_move rfl)) ?_
              refine ga_firstY 34 (bm 45 34359738367) rfl rfl rfl rfl rfl rfl (by kernel_rfl) (by kernel_rfl) ⟨[0], by decide, rfl⟩ (qt_rd (rd_nilCheck rfl)) ?_
              refine ga_firstY 35 (bm 45 68719476735) rfl rfl rfl rfl rfl rfl (by kernel_rfl) (by kernel_rfl) ⟨[0], by decide, rfl⟩ (qt_rd (rd_fieldAddr rfl (fa_76_2 _))) ?_
              refine ga_firstY 36 (bm 45 137438953471) rfl rfl rfl rfl rfl rfl (by kernel_rfl) (by kernel_rfl) ⟨[0], by decide, rfl⟩ (qt_rd (rd_load Try.underlying25 rfl rfl (ld_sl hP rfl))) ?_
              refine ga_firstY 37 (bm 45 274877906943) rfl rfl rfl rfl rfl rfl (by kernel_rfl) (by kernel_rfl) ⟨[0], by decide, rfl⟩ (qt_rd (rd_move rfl)) ?_
              refine ga_firstY 38 (bm 45 549755813887) rfl rfl rfl rfl rfl rfl (by kernel_rfl) (by kernel_rfl) ⟨[0], by decide, rfl⟩ (qt_rd (rd_indexOld1 hA Try.underlying25 ty_2 rfl rfl (by omega) (by omega))) ?_
              refine ga_firstY 39 (bm 45 1099511627775) rfl rfl rfl rfl rfl rfl (by kernel_rfl) (by kernel_rfl) ⟨[0], by decide, rfl⟩ (qt_rd (rd_load Try.underlying2 rfl rfl (ld_slN hA (get_atQ (k := k) (by omega))))) ?_
              refine ga_firstY 40 (bm 45 2199023255551) rfl rfl rfl rfl rfl rfl (by kernel_rfl) (by kernel_rfl) ⟨[0], by decide, rfl⟩ (qt_rd (rd_fieldAddr rfl (fa_48_2 _))) ?_
              refine ga_firstY 41 (bm 45 4398046511103) rfl rfl rfl rfl rfl rfl (by kernel_rfl) (by kernel_rfl) ⟨[0], by decide, rfl⟩ (qt_rd (rd_load Try.underlying2 rfl rfl (by exact ld_blk 0 rfl rfl))) ?_
              refine ga_firstY 42 (bm 45 8796093022207) rfl rfl rfl rfl rfl rfl (by kernel_rfl) (by kernel_rfl) ⟨[0], by decide, rfl⟩ (qt_rd (by exact rd_addN rfl rfl (by omega))) ?_
              refine ga_firstY 43 (bm 45 17592186044415) rfl rfl rfl rfl rfl rfl (by kernel_rfl) (by kernel_rfl) ⟨[0], by decide, rfl⟩ (qt_rd (rd_lss rfl rfl)) (gk_dec (fun h113 => ?_) (fun h113 => ?_))
              · refine ga_first 44 (bm 45 35184372088831) rfl rfl rfl rfl (by kernel_rfl) (by kernel_rfl) ⟨[0], by decide, rfl⟩ (qt_rd (rd_pick_t rfl rfl)) ?_
                refine ga_end (by kernel_rfl) (.inr ⟨[0], by decide, rfl⟩) ?_
                refine gx_then <| gc_cond_t rfl <| gc_region <| gl_op <| op_rd rfl (rd_move rfl) <| gl_op (op_rd rfl (by exact rd_addN (b := 1) rfl rfl (by omega)) ?_)
                refine gl_op <| op_rd rfl (rd_assign rfl) <| gl_nil <| gx_block <| gx_then <| gc_region <| gl_op (op_rd rfl (by exact rd_addN (b := 1) rfl rfl (by omega)) ?_)
                refine gl_op <| op_rd rfl (rd_move rfl) <| gl_nil <| gx_then ?_
                rw [← cnt_yes hz h76 (by omega)]
                exact gx_cut (k + 1) ⟨by omega, by omega⟩ ⟨rfl, rfl, rfl, rfl, rfl, rfl, rfl, rfl, rfl, rfl, trivial⟩ ⟨[], by decide, rfl⟩
              refine ga_first 44 (bm 45 35184372088831) rfl rfl rfl rfl (by kernel_rfl) (by kernel_rfl) ⟨[0], by decide, rfl⟩ (qt_rd (rd_pick_t rfl rfl)) ?_
              refine ga_end (by kernel_rfl) (.inr ⟨[0], by decide, rfl⟩) ?_
              refine gx_then <| gc_cond_f rfl <| gc_skip <| gx_block <| gx_then <| gc_region <| gl_op (op_rd rfl (by exact rd_addN (b := 1) rfl rfl (by omega)) ?_)
              refine gl_op <| op_rd rfl (rd_move rfl) <| gl_nil <| gx_then ?_
              rw [← cnt_no hz (.inr (by omega))]
              exact gx_cut (k + 1) ⟨by omega, by omega⟩ ⟨rfl, rfl, rfl, rfl, rfl, rfl, rfl, rfl, rfl, rfl, trivial⟩ ⟨[], by decide, rfl⟩
            refine ga_first 30 (bm 45 2147483647) rfl rfl rfl rfl (by kernel_rfl) (by kernel_rfl) ⟨[0], by decide, rfl⟩ (qt_rd (rd_pick_t rfl rfl)) ?_
            refine ga_first 31 (bm 45 4294967295) rfl rfl rfl rfl (by kernel_rfl) (by kernel_rfl) ⟨[0], by decide, rfl⟩ (qt_rd (rd_move rfl)) ?_
            refine ga_firstN 32 (bm 45 8589934591) rfl rfl rfl rfl rfl rfl (by kernel_rfl) (by kernel_rfl) ⟨[0], by decide, rfl⟩ ?_
            refine ga_firstN 33 (bm 45 17179869183) rfl rfl rfl rfl rfl rfl (by kernel_rfl) (by kernel_rfl) ⟨[0], by decide, rfl⟩ ?_
            refine ga_firstN 34 (bm 45 34359738367) rfl rfl rfl rfl rfl rfl (by kernel_rfl) (by kernel_rfl) ⟨[0], by decide, rfl⟩ ?_
            refine ga_firstN 35 (bm 45 68719476735) rfl rfl rfl rfl rfl rfl (by kernel_rfl) (by kernel_rfl) ⟨[0], by decide, rfl⟩ ?_
            refine ga_firstN 36 (bm 45 137438953471) rfl rfl rfl rfl rfl rfl (by kernel_rfl) (by kernel_rfl) ⟨[0], by decide, rfl⟩ ?_
            refine ga_firstN 37 (bm 45 274877906943) rfl rfl rfl rfl rfl rfl (by kernel_rfl) (by kernel_rfl) ⟨[0], by decide, rfl⟩ ?_
            refine ga_firstN 38 (bm 45 549755813887) rfl rfl rfl rfl rfl rfl (by kernel_rfl) (by kernel_rfl) ⟨[0], by decide, rfl⟩ ?_
            refine ga_firstN 39 (bm 45 1099511627775) rfl rfl rfl rfl rfl rfl (by kernel_rfl) (by kernel_rfl) ⟨[0], by decide, rfl⟩ ?_
            refine ga_firstN 40 (bm 45 2199023255551) rfl rfl rfl rfl rfl rfl (by kernel_rfl) (by kernel_rfl) ⟨[0], by decide, rfl⟩ ?_
            refine ga_firstN 41 (bm 45 4398046511103) rfl rfl rfl rfl rfl rfl (by kernel_rfl) (by kernel_rfl) ⟨[0], by decide, rfl⟩ ?_
            refine ga_firstN 42 (bm 45 8796093022207) rfl rfl rfl rfl rfl rfl (by kernel_rfl) (by kernel_rfl) ⟨[0], by decide, rfl⟩ ?_
            refine ga_firstN 43 (bm 45 17592186044415) rfl rfl rfl rfl rfl rfl (by kernel_rfl) (by kernel_rfl) ⟨[0], by decide, rfl⟩ ?_
            refine ga_first 44 (bm 45 35184372088831) rfl rfl rfl rfl (by kernel_rfl) (by kernel_rfl) ⟨[0], by decide, rfl⟩ (qt_rd (rd_pick_f rfl rfl)) ?_
            refine ga_end (by kernel_rfl) (.inr ⟨[0], by decide, rfl⟩) ?_
            refine gx_then <| gc_cond_f rfl <| gc_skip <| gx_block <| gx_then <| gc_region <| gl_op (op_rd rfl (by exact rd_addN (b := 1) rfl rfl (by omega)) ?_)
            refine gl_op <| op_rd rfl (rd_move rfl) <| gl_nil <| gx_then ?_
            rw [← cnt_no hz (.inr (by omega))]
            exact gx_cut (k + 1) ⟨by omega, by omega⟩ ⟨rfl, rfl, rfl, rfl, rfl, rfl, rfl, rfl, rfl, rfl, trivial⟩ ⟨[], by decide, rfl⟩
          refine ga_first 19 (bm 45 1048575) rfl rfl rfl rfl (by kernel_rfl) (by kernel_rfl) ⟨[0], by decide, rfl⟩ (qt_rd (rd_pick_t rfl rfl)) ?_
          refine ga_first 20 (bm 45 2097151) rfl rfl rfl rfl (by kernel_rfl) (by kernel_rfl) ⟨[0], by decide, rfl⟩ (qt_rd (rd_move rfl)) ?_
          refine ga_firstN 21 (bm 45 4194303) rfl rfl rfl rfl rfl rfl (by kernel_rfl) (by kernel_rfl) ⟨[0], by decide, rfl⟩ ?_
          refine ga_firstN 22 (bm 45 8388607) rfl rfl rfl rfl rfl rfl (by kernel_rfl) (by kernel_rfl) ⟨[0], by decide, rfl⟩ ?_
          refine ga_firstN 23 (bm 45 16777215) rfl rfl rfl rfl rfl rfl (by kernel_rfl) (by kernel_rfl) ⟨[0], by decide, rfl⟩ ?_
          refine ga_firstN 24 (bm 45 33554431) rfl rfl rfl rfl rfl rfl (by kernel_rfl) (by kernel_rfl) ⟨[0], by decide, rfl⟩ ?_
          refine ga_firstN 25 (bm 45 67108863) rfl rfl rfl rfl rfl rfl (by kernel_rfl) (by kernel_rfl) ⟨[0], by decide, rfl⟩ ?_
          refine ga_firstN 26 (bm 45 134217727) rfl rfl rfl rfl rfl rfl (by kernel_rfl) (by kernel_rfl) ⟨[0], by decide, rfl⟩ ?_
          refine ga_firstN 27 (bm 45 268435455) rfl rfl rfl rfl rfl rfl (by kernel_rfl) (by kernel_rfl) ⟨[0], by decide, rfl⟩ ?_
          refine ga_firstN 28 (bm 45 536870911) rfl rfl rfl rfl rfl rfl (by kernel_rfl) (by kernel_rfl) ⟨[0], by decide, rfl⟩ ?_
          refine ga_firstN 29 (bm 45 1073741823) rfl rfl rfl rfl rfl rfl (by kernel_rfl) (by kernel_rfl) ⟨[0], by decide, rfl⟩ ?_
          refine ga_first 30 (bm 45 2147483647) rfl rfl rfl rfl (by kernel_rfl) (by kernel_rfl) ⟨[0], by decide, rfl⟩ (qt_rd (rd_pick_f rfl rfl)) ?_
          refine ga_first 31 (bm 45 4294967295) rfl rfl rfl rfl (by kernel_rfl) (by kernel_rfl) ⟨[0], by decide, rfl⟩ (qt_rd (rd_move rfl)) ?_
          refine ga_firstN 32 (bm 45 8589934591) rfl rfl rfl rfl rfl rfl (by kernel_rfl) (by kernel_rfl) ⟨[0], by decide, rfl⟩ ?_
          refine ga_firstN 33 (bm 45 17179869183) rfl rfl rfl rfl rfl rfl (by kernel_rfl) (by kernel_rfl) ⟨[0], by decide, rfl⟩ ?_
          refine ga_firstN 34 (bm 45 34359738367) rfl rfl rfl rfl rfl rfl (by kernel_rfl) (by kernel_rfl) ⟨[0], by decide, rfl⟩ ?_
          refine ga_firstN 35 (bm 45 68719476735) rfl rfl rfl rfl rfl rfl (by kernel_rfl) (by kernel_rfl) ⟨[0], by decide, rfl⟩ ?_
          refine ga_firstN 36 (bm 45 137438953471) rfl rfl rfl rfl rfl rfl (by kernel_rfl) (by kernel_rfl) ⟨[0], by decide, rfl⟩ ?_
          refine ga_firstN 37 (bm 45 274877906943) rfl rfl rfl rfl rfl rfl (by kernel_rfl) (by kernel_rfl) ⟨[0], by decide, rfl⟩ ?_
          refine ga_firstN 38 (bm 45 549755813887) rfl rfl rfl rfl rfl rfl (by kernel_rfl) (by kernel_rfl) ⟨[0], by decide, rfl⟩ ?_
          refine ga_firstN 39 (bm 45 1099511627775) rfl rfl rfl rfl rfl rfl (by kernel_rfl) (by kernel_rfl) ⟨[0], by decide, rfl⟩ ?_
          refine ga_firstN 40 (bm 45 2199023255551) rfl rfl rfl rfl rfl rfl (by kernel_rfl) (by kernel_rfl) ⟨[0], by decide, rfl⟩ ?_
          refine ga_firstN 41 (bm 45 4398046511103) rfl rfl rfl rfl rfl rfl (by kernel_rfl) (by kernel_rfl) ⟨[0], by decide, rfl⟩ ?_
          refine ga_firstN 42 (bm 45 8796093022207) rfl rfl rfl rfl rfl rfl (by kernel_rfl) (by kernel_rfl) ⟨[0], by decide, rfl⟩ ?_
          refine ga_firstN 43 (bm 45 17592186044415) rfl rfl rfl rfl rfl rfl (by kernel_rfl) (by kernel_rfl) ⟨[0], by decide, rfl⟩ ?_
          refine ga_first 44 (bm 45 35184372088831) rfl rfl rfl rfl (by kernel_rfl) (by kernel_rfl) ⟨[0], by decide, rfl⟩ (qt_rd (rd_pick_f rfl rfl)) ?_
          refine ga_end (by kernel_rfl) (.inr ⟨[0], by decide, rfl⟩) ?_
          refine gx_then <| gc_cond_f rfl <| gc_skip <| gx_block <| gx_then <| gc_region <| gl_op (op_rd rfl (by exact rd_addN (b := 1) rfl rfl (by omega)) ?_)
          refine gl_op <| op_rd rfl (rd_move rfl) <| gl_nil <| gx_then ?_
          rw [← cnt_no hz (.inr (by omega))]
          exact gx_cut (k + 1) ⟨by omega, by omega⟩ ⟨rfl, rfl, rfl, rfl, rfl, rfl, rfl, rfl, rfl, rfl, trivial⟩ ⟨[], by decide, rfl⟩
        refine ga_first 7 (bm 45 255) rfl rfl rfl rfl (by kernel_rfl) (by kernel_rfl) ⟨[0], by decide, rfl⟩ (qt_rd (rd_move rfl)) ?_
        refine ga_firstN 8 (bm 45 511) rfl rfl rfl rfl rfl rfl (by kernel_rfl) (by kernel_rfl) ⟨[0], by decide, rfl⟩ ?_
        refine ga_firstN 9 (bm 45 1023) rfl rfl rfl rfl rfl rfl (by kernel_rfl) (by kernel_rfl) ⟨[0], by decide, rfl⟩ ?_
        refine ga_firstN 10 (bm 45 2047) rfl rfl rfl rfl rfl rfl (by kernel_rfl) (by kernel_rfl) ⟨[0], by decide, rfl⟩ ?_
        refine ga_firstN 11 (bm 45 4095) rfl rfl rfl rfl rfl rfl (by kernel_rfl) (by kernel_rfl) ⟨[0], by decide, rfl⟩ ?_
        refine ga_firstN 12 (bm 45 8191) rfl rfl rfl rfl rfl rfl (by kernel_rfl) (by kernel_rfl) ⟨[0], by decide, rfl⟩ ?_
        refine ga_firstN 13 (bm 45 16383) rfl rfl rfl rfl rfl rfl (by kernel_rfl) (by kernel_rfl) ⟨[0], by decide, rfl⟩ ?_
        refine ga_firstN 14 (bm 45 32767) rfl rfl rfl rfl rfl rfl (by kernel_rfl) (by kernel_rfl) ⟨[0], by decide, rfl⟩ ?_
        refine ga_firstN 15 (bm 45 65535) rfl rfl rfl rfl rfl rfl (by kernel_rfl) (by kernel_rfl) ⟨[0], by decide, rfl⟩ ?_
        refine ga_firstN 16 (bm 45 131071) rfl rfl rfl rfl rfl rfl (by kernel_rfl) (by kernel_rfl) ⟨[0], by decide, rfl⟩ ?_
        refine ga_firstN 17 (bm 45 262143) rfl rfl rfl rfl rfl rfl (by kernel_rfl) (by kernel_rfl) ⟨[0], by decide, rfl⟩ ?_
        refine ga_firstN 18 (bm 45 524287) rfl rfl rfl rfl rfl rfl (by kernel_rfl) (by kernel_rfl) ⟨[0], by decide, rfl⟩ ?_
        refine ga_first 19 (bm 45 1048575) rfl rfl rfl rfl (by kernel_rfl) (by kernel_rfl) ⟨[0], by decide, rfl⟩ (qt_rd (rd_pick_f rfl rfl)) ?_
        refine ga_first 20 (bm 45 2097151) rfl rfl rfl rfl (by kernel_rfl) (by kernel_rfl) ⟨[0], by decide, rfl⟩ (qt_rd (rd_move rfl)) ?_
        refine ga_firstN 21 (bm 45 4194303) rfl rfl rfl rfl rfl rfl (by kernel_rfl) (by kernel_rfl) ⟨[0], by decide, rfl⟩ ?_
        refine ga_firstN 22 (bm 45 8388607) rfl rfl rfl rfl rfl rfl (by kernel_rfl) (by kernel_rfl) ⟨[0], by decide, rfl⟩ ?_
        refine ga_firstN 23 (bm 45 16777215) rfl rfl rfl rfl rfl rfl (by kernel_rfl) (by kernel_rfl) ⟨[0], by decide, rfl⟩ ?_
        refine ga_firstN 24 (bm 45 33554431) rfl rfl rfl rfl rfl rfl (by kernel_rfl) (by kernel_rfl) ⟨[0], by decide, rfl⟩ ?_
        refine ga_firstN 25 (bm 45 67108863) rfl rfl rfl rfl rfl rfl (by kernel_rfl) (by kernel_rfl) ⟨[0], by decide, rfl⟩ ?_
        refine ga_firstN 26 (bm 45 134217727) rfl rfl rfl rfl rfl rfl (by kernel_rfl) (by kernel_rfl) ⟨[0], by decide, rfl⟩ ?_
        refine ga_firstN 27 (bm 45 268435455) rfl rfl rfl rfl rfl rfl (by kernel_rfl) (by kernel_rfl) ⟨[0], by decide, rfl⟩ ?_
        refine ga_firstN 28 (bm 45 536870911) rfl rfl rfl rfl rfl rfl (by kernel_rfl) (by kernel_rfl) ⟨[0], by decide, rfl⟩ ?_
        refine ga_firstN 29 (bm 45 1073741823) rfl rfl rfl rfl rfl rfl (by kernel_rfl) (by kernel_rfl) ⟨[0], by decide, rfl⟩ ?_
        refine ga_first 30 (bm 45 2147483647) rfl rfl rfl rfl (by kernel_rfl) (by kernel_rfl) ⟨[0], by decide, rfl⟩ (qt_rd (rd_pick_f rfl rfl)) ?_
        refine ga_first 31 (bm 45 4294967295) rfl rfl rfl rfl (by kernel_rfl) (by kernel_rfl) ⟨[0], by decide, rfl⟩ (qt_rd (rd_move rfl)) ?_
        refine ga_firstN 32 (bm 45 8589934591) rfl rfl rfl rfl rfl rfl (by kernel_rfl) (by kernel_rfl) ⟨[0], by decide, rfl⟩ ?_
        refine ga_firstN 33 (bm 45 17179869183) rfl rfl rfl rfl rfl rfl (by kernel_rfl) (by kernel_rfl) ⟨[0], by decide, rfl⟩ ?_
        refine ga_firstN 34 (bm 45 34359738367) rfl rfl rfl rfl rfl rfl (by kernel_rfl) (by kernel_rfl) ⟨[0], by decide, rfl⟩ ?_
        refine ga_firstN 35 (bm 45 68719476735) rfl rfl rfl rfl rfl rfl (by kernel_rfl) (by kernel_rfl) ⟨[0], by decide, rfl⟩ ?_
        refine ga_firstN 36 (bm 45 137438953471) rfl rfl rfl rfl rfl rfl (by kernel_rfl) (by kernel_rfl) ⟨[0], by decide, rfl⟩ ?_
        refine ga_firstN 37 (bm 45 274877906943) rfl rfl rfl rfl rfl rfl (by kernel_rfl) (by kernel_rfl) ⟨[0], by decide, rfl⟩ ?_
        refine ga_firstN 38 (bm 45 549755813887) rfl rfl rfl rfl rfl rfl (by kernel_rfl) (by kernel_rfl) ⟨[0], by decide, rfl⟩ ?_
        refine ga_firstN 39 (bm 45 1099511627775) rfl rfl rfl rfl rfl rfl (by kernel_rfl) (by kernel_rfl) ⟨[0], by decide, rfl⟩ ?_
        refine ga_firstN 40 (bm 45 2199023255551) rfl rfl rfl rfl rfl rfl (by kernel_rfl) (by kernel_rfl) ⟨[0], by decide, rfl⟩ ?_
        refine ga_firstN 41 (bm 45 4398046511103) rfl rfl rfl rfl rfl rfl (by kernel_rfl) (by kernel_rfl) ⟨[0], by decide, rfl⟩ ?_
        refine ga_firstN 42 (bm 45 8796093022207) rfl rfl rfl rfl rfl rfl (by kernel_rfl) (by kernel_rfl) ⟨[0], by decide, rfl⟩ ?_
        refine ga_firstN 43 (bm 45 17592186044415) rfl rfl rfl rfl rfl rfl (by kernel_rfl) (by kernel_rfl) ⟨[0], by decide, rfl⟩ ?_
        refine ga_first 44 (bm 45 35184372088831) rfl rfl rfl rfl (by kernel_rfl) (by kernel_rfl) ⟨[0], by decide, rfl⟩ (qt_rd (rd_pick_f rfl rfl)) ?_
        refine ga_end (by kernel_rfl) (.inr ⟨[0], by decide, rfl⟩) ?_
        refine gx_then <| gc_cond_f rfl <| gc_skip <| gx_block <| gx_then <| gc_region <| gl_op (op_rd rfl (by exact rd_addN (b := 1) rfl rfl (by omega)) ?_)
        refine gl_op <| op_rd rfl (rd_move rfl) <| gl_nil <| gx_then ?_
        rw [← cnt_no hz (.inl h76)]
        exact gx_cut (k + 1) ⟨by omega, by omega⟩ ⟨rfl, rfl, rfl, rfl, rfl, rfl, rfl, rfl, rfl, rfl, trivial⟩ ⟨[], by decide, rfl⟩
      have hk9 : k = l.length := by omega
      subst hk9
      refine gl_nil <| gx_then <| gc_seq <| gc_cond_f rfl <| gc_exit <| gx_then_exit <| gx_then_exit <| gx_block_exit <| gx_then <| gc_seq <| gc_drawP [] true 15 rfl <| ga_first 0 (bm 16 1) rfl rfl rfl rfl (by kernel_rfl) (by kernel_rfl) ⟨[], by decide, rfl⟩ (qt_rd (rd_move rfl)) ?_
      refine ga_first 1 (bm 16 3) rfl rfl rfl rfl (by kernel_rfl) (by kernel_rfl) ⟨[], by decide, rfl⟩ (qt_rd (rd_move rfl)) ?_
      refine ga_first 2 (bm 16 7) rfl rfl rfl rfl (by kernel_rfl) (by kernel_rfl) ⟨[], by decide, rfl⟩ (qt_rd (rd_nilCheck rfl)) ?_
      refine ga_first 3 (bm 16 15) rfl rfl rfl rfl (by kernel_rfl) (by kernel_rfl) ⟨[], by decide, rfl⟩ (qt_rd (rd_fieldAddr rfl (fa_76_0 _))) ?_
      refine ga_first 4 (bm 16 31) rfl rfl rfl rfl (by kernel_rfl) (by kernel_rfl) ⟨[], by decide, rfl⟩ (qt_rd (rd_load Try.underlying29 rfl rfl (ld_sl hP rfl))) ?_
      refine ga_first 5 (bm 16 63) rfl rfl rfl rfl (by kernel_rfl) (by kernel_rfl) ⟨[], by decide, rfl⟩ (qt_rd (rd_move rfl)) ?_
      refine ga_first 6 (bm 16 127) rfl rfl rfl rfl (by kernel_rfl) (by kernel_rfl) ⟨[], by decide, rfl⟩ (qt_rd (rd_nilCheck rfl)) ?_
      refine ga_first 7 (bm 16 255) rfl rfl rfl rfl (by kernel_rfl) (by kernel_rfl) ⟨[], by decide, rfl⟩ (qt_rd (rd_fieldAddr rfl (fa_76_1 _))) ?_
      refine ga_first 8 (bm 16 511) rfl rfl rfl rfl (by kernel_rfl) (by kernel_rfl) ⟨[], by decide, rfl⟩ (qt_rd (rd_load Try.underlying22 rfl rfl (ld_sl hP rfl))) ?_
      refine ga_first 9 (bm 16 1023) rfl rfl rfl rfl (by kernel_rfl) (by kernel_rfl) ⟨[], by decide, rfl⟩ (qt_rd (rd_move rfl)) ?_
      refine ga_first 10 (bm 16 2047) rfl rfl rfl rfl (by kernel_rfl) (by kernel_rfl) ⟨[], by decide, rfl⟩ (qt_rd (rd_indexOld hJ.t Try.underlying22 ty_48 rfl rfl (by omega) (by omega))) ?_
      refine ga_first 11 (bm 16 4095) rfl rfl rfl rfl (by kernel_rfl) (by kernel_rfl) ⟨[], by decide, rfl⟩ (qt_rd (rd_fieldAddr rfl (fa_48_1 _))) ?_
      refine ga_first 12 (bm 16 8191) rfl rfl rfl rfl (by kernel_rfl) (by kernel_rfl) ⟨[], by decide, rfl⟩ (qt_rd (rd_load Try.underlying3 rfl rfl (ld_slf hJ.t (get_flat Jb.cells 4 (fun _ => rfl) hx (j := 1) (by decide) rfl)))) ?_
      refine ga_first 13 (bm 16 16383) rfl rfl rfl rfl (by kernel_rfl) (by kernel_rfl) ⟨[], by decide, rfl⟩ (qt_rd (rd_indexOld1 hS Try.underlying29 ty_3 rfl rfl (by omega) (by omega))) ?_
      refine ga_first 14 (bm 16 32767) rfl rfl rfl rfl (by kernel_rfl) (by kernel_rfl) ⟨[], by decide, rfl⟩ (qt_rd (rd_load Try.underlying3 rfl rfl (ld_slN hS (get_intL hs)))) ?_
      refine ga_first 15 (bm 16 65535) rfl rfl rfl rfl (by kernel_rfl) (by kernel_rfl) ⟨[], by decide, rfl⟩ (qt_rd (rd_geq rfl rfl)) (gk_dec (fun h133 => ?_) (fun h133 => ?_))
      · refine ga_end (by kernel_rfl) (.inr ⟨[], by decide, rfl⟩) ?_
        refine gx_then <| gc_cond_t rfl <| gc_seq <| gc_region <| gl_op <| op_rd rfl (rd_assign rfl) <| gl_nil <| gx_then <| gc_ret <| gx_block_ret <| gx_then_ret <| gx_then_ret <| gx_block_ret <| gx_then_ret <| gx_ret1 (.inl rfl) Try.results74 rfl [] (by decide) ?_
        refine ⟨congrArg Value.bool (Eq.symm ?_), rfl⟩
        exact free_no (h := t) (by omega) (by omega) (by rw [hsb, hbn]; unfold cntA; omega)
      refine ga_end (by kernel_rfl) (.inr ⟨[], by decide, rfl⟩) ?_
      refine gx_then <| gc_cond_f rfl <| gc_skip <| gx_block <| gx_then <| gc_region <| gl_op <| op_rd rfl (rd_move rfl) <| gl_op (op_rd rfl (by exact rd_add rfl rfl (by omega) (by omega)) ?_)
      refine gl_op <| op_rd rfl (rd_assign rfl) <| gl_nil <| gx_then ?_
      rw [show (k0 : Int) - 1 + 1 = ((k0 + 1 : Nat) : Int) - 1 by omega]
      exact gx_cut (k0 + 1) ⟨⟨by omega, fun _ => by unfold cntA; omega, fun q hq => by omega⟩, by omega⟩ ⟨rfl, rfl, rfl, rfl, rfl, trivial⟩ ⟨[], by decide, rfl⟩
    refine gc_region <| gl_op <| op_rd rfl (rd_move rfl) <| gl_op <| op_rd rfl (rd_assign rfl) <| gl_nil <| gx_then <| gc_seq <| gc_seq <| gc_region <| gl_op <| op_rd rfl (rd_move rfl) <| gl_op (op_rd rfl (rd_geq rfl rfl) (gk_dec (fun h34 => ?_) (fun h34 => ?_)))
    · obtain ⟨k1, rfl⟩ : ∃ k1, k0 = k1 + 1 := ⟨k0 - 1, by omega⟩
      have hkb1 := hpb k1
      rw [show ((k1 + 1 : Nat) : Int) - 1 = ((k1 : Nat) : Int) by omega]
      refine gl_nil <| gx_then <| gc_cond_t rfl <| gc_seq <| gc_region <| gl_op <| op_rd rfl (rd_move rfl) <| gl_op <| op_rd rfl (rd_nilCheck rfl) <| gl_op <| op_rd rfl (rd_fieldAddr rfl (fa_76_2 _)) <| gl_op <| op_rd rfl (rd_load Try.underlying25 rfl rfl (ld_sl hP rfl)) <| gl_op <| op_rd rfl (rd_move rfl) <| gl_op (op_rd rfl (rd_indexOld1 hA Try.underlying25 ty_2 rfl rfl (by omega) (by omega)) ?_)
      refine gl_op (op_rd rfl (rd_load Try.underlying2 rfl rfl (ld_slN hA (get_atQ (k := k1) (by omega)))) ?_)
      refine gl_op <| op_rd rfl (rd_assign rfl) <| gl_nil <| gx_then <| gc_seq <| gc_region <| gl_op <| op_rd rfl (rd_move rfl) <| gl_op <| op_rd rfl (rd_nilCheck rfl) <| gl_op <| op_rd rfl (rd_fieldAddr rfl (fa_76_3 _)) <| gl_op <| op_rd rfl (rd_load Try.underlying74 rfl rfl (ld_sl hP rfl)) <| gl_op <| op_rd rfl (rd_move rfl) <| gl_op (op_rd rfl (rd_indexOld1 hB Try.underlying74 ty_4 rfl rfl (by omega) (by omega)) ?_)
      refine gl_op (op_rd rfl (rd_load Try.underlying4 rfl rfl (ld_slN hB (get_plQ (k := k1) (by omega)))) ?_)
      refine gk_bool (fun h48 => ?_) (fun h48 => ?_)
      · refine gl_op <| op_rd rfl (rd_not rfl) <| gl_op <| op_rd rfl (rd_move rfl) <| gl_yes rfl rfl <| op_rd rfl (rd_move rfl) <| gl_yes rfl rfl <| op_rd rfl (rd_move rfl) <| gl_yes rfl rfl (op_rd rfl (rd_leq rfl rfl) (gk_dec (fun h53 => ?_) (fun h53 => ?_)))
        · refine gl_op <| op_rd rfl (rd_pick_f rfl rfl) <| gl_op <| op_rd rfl (rd_move rfl) <| gl_no rfl rfl rfl <| gl_no rfl rfl rfl <| gl_no rfl rfl rfl <| gl_op <| op_rd rfl (rd_pick_t rfl rfl) <| gl_nil <| gx_then <| gc_cond_t rfl <| gc_exit <| gx_then_exit <| gx_block_exit <| gx_then <| gc_region <| gl_op <| op_rd rfl (rd_move rfl) <| gl_op (op_rd rfl (by exact rd_addN (b := 1) rfl rfl (by omega)) ?_)
          refine gl_op <| op_rd rfl (rd_assign rfl) <| gl_nil <| gx_then ?_
          rw [show ((k1 + 1 : Nat) : Int) = ((k1 + 1 + 1 : Nat) : Int) - 1 by omega]
          exact gx_cut (k1 + 1 + 1) ⟨⟨by omega, fun _ => hz0 (by omega), fun q hq hp h1 h2 => by
            rcases Nat.lt_or_ge (q + 1) (k1 + 1) with h9 | h9
            · exact hall q h9 hp h1 h2
            · have h8 : q = k1 := by omega
              subst h8
              (exfalso; omega)⟩, by omega⟩ ⟨rfl, rfl, rfl, rfl, rfl, trivial⟩ ⟨[], by decide, rfl⟩
        refine gl_op <| op_rd rfl (rd_pick_f rfl rfl) <| gl_op <| op_rd rfl (rd_move rfl) <| gl_yes rfl rfl <| op_rd rfl (rd_move rfl) <| gl_yes rfl rfl <| op_rd rfl (rd_move rfl) <| gl_yes rfl rfl (op_rd rfl (rd_geq rfl rfl) (gk_dec (fun h58 => ?_) (fun h58 => ?_)))
        · refine gl_op <| op_rd rfl (rd_pick_f rfl rfl) <| gl_nil <| gx_then <| gc_cond_t rfl <| gc_exit <| gx_then_exit <| gx_block_exit <| gx_then <| gc_region <| gl_op <| op_rd rfl (rd_move rfl) <| gl_op (op_rd rfl (by exact rd_addN (b := 1) rfl rfl (by omega)) ?_)
          refine gl_op <| op_rd rfl (rd_assign rfl) <| gl_nil <| gx_then ?_
          rw [show ((k1 + 1 : Nat) : Int) = ((k1 + 1 + 1 : Nat) : Int) - 1 by omega]
          exact gx_cut (k1 + 1 + 1) ⟨⟨by omega, fun _ => hz0 (by omega), fun q hq hp h1 h2 => by
            rcases Nat.lt_or_ge (q + 1) (k1 + 1) with h9 | h9
            · exact hall q h9 hp h1 h2
            · have h8 : q = k1 := by omega
              subst h8
              (exfalso; omega)⟩, by omega⟩ ⟨rfl, rfl, rfl, rfl, rfl, trivial⟩ ⟨[], by decide, rfl⟩
        refine gl_op <| op_rd rfl (rd_pick_f rfl rfl) <| gl_nil <| gx_then <| gc_cond_f rfl <| gc_skip <| gx_then <| gc_seq <| gc_region <| gl_op <| op_rd rfl (rd_assign rfl) <| gl_nil <| gx_then <| gc_seq <| gc_seq <| gc_region <| gl_op <| op_rd rfl (rd_move rfl) <| gl_op <| op_rd rfl (rd_nilCheck rfl) <| gl_op <| op_rd rfl (rd_fieldAddr rfl (fa_76_1 _)) <| gl_op <| op_rd rfl (rd_load Try.underlying22 rfl rfl (ld_sl hP rfl)) <| gl_op <| op_rd rfl (rd_lenSlice Try.underlying22 rfl) <| gl_op <| op_rd rfl (rd_move rfl) <| gl_nil <| gx_then <| gc_block <| gc_loopF (ι := Nat) [(0, _), (1, _), (2, _), (7, _), (8, _), (9, _), (63, _), (64, _)] [] (fun k => k ≤ l.length) (fun k Fr0 => ((10, natV (cntQ l p x.bench (atN p k1) k)) :: (65, natV k) :: Fr0)) (fun k Fr0 => Fr0) (fun k => l.length - k) 0 (Nat.zero_le _) ⟨rfl, rfl, rfl, rfl, rfl, rfl, rfl, rfl, rfl, rfl, trivial⟩ ⟨[], by decide, rfl⟩ ?_
        rintro k hk
        refine gc_seq <| gc_region <| gl_op (op_rd rfl (rd_lss rfl rfl) (gk_dec (fun h66 => ?_) (fun h66 => ?_)))
        · obtain ⟨z, hz⟩ := get_some (show k < l.length by omega)
          have hzh := job_le hj hz
          have hkb := hpb k
          have hcl := cntQ_le l p x.bench (atN p k1) k
          have hzb := bn_at hz
          have hzr := hr_at hz
          refine gl_nil <| gx_then <| gc_seq <| gc_cond_t rfl <| gc_skip <| gx_then <| gc_seq <| gc_block <| gc_seq <| gc_region <| gl_op <| op_rd rfl (rd_move rfl) <| gl_op (op_rd rfl (rd_indexOld hJ.t Try.underlying22 ty_48 rfl rfl (by omega) (by omega)) ?_)
          refine gl_op (op_rd rfl (rd_loadAgg Try.underlying48 rfl ty_48 rfl (cs_slN hJ.t (flat_drop_get Jb.cells 4 (fun _ => rfl) hz)) rfl) ?_)
          refine gl_op (op_alloc ty_48 rfl rfl (fun b12 => ?_))
          refine gl_op <| op_rd rfl (rd_assign rfl) <| gl_op (op_storeAgg 0 ty_48 rfl rfl rfl rfl rfl rfl (by rfl) ?_)
          refine gl_nil <| gx_then <| gc_seq <| gc_drawP [0] true 44 rfl <| ga_first 0 (bm 45 1) rfl rfl rfl rfl (by kernel_rfl) (by kernel_rfl) ⟨[0], by decide, rfl⟩ (qt_rd (rd_move rfl)) ?_
          refine ga_first 1 (bm 45 3) rfl rfl rfl rfl (by kernel_rfl) (by kernel_rfl) ⟨[0], by decide, rfl⟩ (qt_rd (rd_nilCheck rfl)) ?_
          refine ga_first 2 (bm 45 7) rfl rfl rfl rfl (by kernel_rfl) (by kernel_rfl) ⟨[0], by decide, rfl⟩ (qt_rd (rd_fieldAddr rfl (fa_76_3 _))) ?_
          refine ga_first 3 (bm 45 15) rfl rfl rfl rfl (by kernel_rfl) (by kernel_rfl) ⟨[0], by decide, rfl⟩ (qt_rd (rd_load Try.underlying74 rfl rfl (ld_sl hP rfl))) ?_
          refine ga_first 4 (bm 45 31) rfl rfl rfl rfl (by kernel_rfl) (by kernel_rfl) ⟨[0], by decide, rfl⟩ (qt_rd (rd_move rfl)) ?_
          refine ga_first 5 (bm 45 63) rfl rfl rfl rfl (by kernel_rfl) (by kernel_rfl) ⟨[0], by decide, rfl⟩ (qt_rd (rd_indexOld1 hB Try.underlying74 ty_4 rfl rfl (by omega) (by omega))) ?_
          refine ga_first 6 (bm 45 127) rfl rfl rfl rfl (by kernel_rfl) (by kernel_rfl) ⟨[0], by decide, rfl⟩ (qt_rd (rd_load Try.underlying4 rfl rfl (ld_slN hB (get_plQ (k := k) (by omega))))) ?_
          refine gk_bool (fun h76 => ?_) (fun h76 => ?_)
          · refine ga_first 7 (bm 45 255) rfl rfl rfl rfl (by kernel_rfl) (by kernel_rfl) ⟨[0], by decide, rfl⟩ (qt_rd (rd_move rfl)) ?_
            refine ga_firstY 8 (bm 45 511) rfl rfl rfl rfl rfl rfl (by kernel_rfl) (by kernel_rfl) ⟨[0], by decide, rfl⟩ (qt_rd (rd_fieldAddr rfl (fa_48_1 _))) ?_
            refine ga_firstY 9 (bm 45 1023) rfl rfl rfl rfl rfl rfl (by kernel_rfl) (by kernel_rfl) ⟨[0], by decide, rfl⟩ (qt_rd (rd_load Try.underlying3 rfl rfl (by exact ld_blk 0 rfl rfl))) ?_
            refine ga_firstY 10 (bm 45 2047) rfl rfl rfl rfl rfl rfl (by kernel_rfl) (by kernel_rfl) ⟨[0], by decide, rfl⟩ (qt_rd (rd_move rfl)) ?_
            refine ga_firstY 11 (bm 45 4095) rfl rfl rfl rfl rfl rfl (by kernel_rfl) (by kernel_rfl) ⟨[0], by decide, rfl⟩ (qt_rd (rd_nilCheck rfl)) ?_
            refine ga_firstY 12 (bm 45 8191) rfl rfl rfl rfl rfl rfl (by kernel_rfl) (by kernel_rfl) ⟨[0], by decide, rfl⟩ (qt_rd (rd_fieldAddr rfl (fa_76_1 _))) ?_
            refine ga_firstY 13 (bm 45 16383) rfl rfl rfl rfl rfl rfl (by kernel_rfl) (by kernel_rfl) ⟨[0], by decide, rfl⟩ (qt_rd (rd_load Try.underlying22 rfl rfl (ld_sl hP rfl))) ?_
            refine ga_firstY 14 (bm 45 32767) rfl rfl rfl rfl rfl rfl (by kernel_rfl) (by kernel_rfl) ⟨[0], by decide, rfl⟩ (qt_rd (rd_move rfl)) ?_
            refine ga_firstY 15 (bm 45 65535) rfl rfl rfl rfl rfl rfl (by kernel_rfl) (by kernel_rfl) ⟨[0], by decide, rfl⟩ (qt_rd (rd_indexOld hJ.t Try.underlying22 ty_48 rfl rfl (by omega) (by omega))) ?_
            refine ga_firstY 16 (bm 45 131071) rfl rfl rfl rfl rfl rfl (by kernel_rfl) (by kernel_rfl) ⟨[0], by decide, rfl⟩ (qt_rd (rd_fieldAddr rfl (fa_48_1 _))) ?_
            refine ga_firstY 17 (bm 45 262143) rfl rfl rfl rfl rfl rfl (by kernel_rfl) (by kernel_rfl) ⟨[0], by decide, rfl⟩ (qt_rd (rd_load Try.underlying3 rfl rfl (ld_slf hJ.t (get_flat Jb.cells 4 (fun _ => rfl) hx (j := 1) (by decide) rfl)))) ?_
            refine ga_firstY 18 (bm 45 524287) rfl rfl rfl rfl rfl rfl (by kernel_rfl) (by kernel_rfl) ⟨[0], by decide, rfl⟩ (qt_rd (rd_eql rfl rfl)) (gk_dec (fun h88 => ?_) (fun h88 => ?_))
            · refine ga_first 19 (bm 45 1048575) rfl rfl rfl rfl (by kernel_rfl) (by kernel_rfl) ⟨[0], by decide, rfl⟩ (qt_rd (rd_pick_t rfl rfl)) ?_
              refine ga_first 20 (bm 45 2097151) rfl rfl rfl rfl (by kernel_rfl) (by kernel_rfl) ⟨[0], by decide, rfl⟩ (qt_rd (rd_move rfl)) ?_
              refine ga_firstY 21 (bm 45 4194303) rfl rfl rfl rfl rfl rfl (by kernel_rfl) (by kernel_rfl) ⟨[0], by decide, rfl⟩ (qt_rd (rd_move rfl)) ?_
              refine ga_firstY 22 (bm 45 8388607) rfl rfl rfl rfl rfl rfl (by kernel_rfl) (by kernel_rfl) ⟨[0], by decide, rfl⟩ (qt_rd (rd_nilCheck rfl)) ?_
              refine ga_firstY 23 (bm 45 16777215) rfl rfl rfl rfl rfl rfl (by kernel_rfl) (by kernel_rfl) ⟨[0], by decide, rfl⟩ (qt_rd (rd_fieldAddr rfl (fa_76_2 _))) ?_
              refine ga_firstY 24 (bm 45 33554431) rfl rfl rfl rfl rfl rfl (by kernel_rfl) (by kernel_rfl) ⟨[0], by decide, rfl⟩ (qt_rd (rd_load Try.underlying25 rfl rfl (ld_sl hP rfl))) ?_
              refine ga_firstY 25 (bm 45 67108863) rfl rfl rfl rfl rfl rfl (by kernel_rfl) (by kernel_rfl) ⟨[0], by decide, rfl⟩ (qt_rd (rd_move rfl)) ?_
              refine ga_firstY 26 (bm 45 134217727) rfl rfl rfl rfl rfl rfl (by kernel_rfl) (by kernel_rfl) ⟨[0], by decide, rfl⟩ (qt_rd (rd_indexOld1 hA Try.underlying25 ty_2 rfl rfl (by omega) (by omega))) ?_
              refine ga_firstY 27 (bm 45 268435455) rfl rfl rfl rfl rfl rfl (by kernel_rfl) (by kernel_rfl) ⟨[0], by decide, rfl⟩ (qt_rd (rd_load Try.underlying2 rfl rfl (ld_slN hA (get_atQ (k := k) (by omega))))) ?_
              refine ga_firstY 28 (bm 45 536870911) rfl rfl rfl rfl rfl rfl (by kernel_rfl) (by kernel_rfl) ⟨[0], by decide, rfl⟩ (qt_rd (rd_move rfl)) ?_
              refine ga_firstY 29 (bm 45 1073741823) rfl rfl rfl rfl rfl rfl (by kernel_rfl) (by kernel_rfl) ⟨[0], by decide, rfl⟩ (qt_rd (rd_leq rfl rfl)) (gk_dec (fun h99 => ?_) (fun h99 => ?_))
              · refine ga_first 30 (bm 45 2147483647) rfl rfl rfl rfl (by kernel_rfl) (by kernel_rfl) ⟨[0], by decide, rfl⟩ (qt_rd (rd_pick_t rfl rfl)) ?_
                refine ga_first 31 (bm 45 4294967295) rfl rfl rfl rfl (by kernel_rfl) (by kernel_rfl) ⟨[0], by decide, rfl⟩ (qt_rd (rd_move rfl)) ?_
                refine ga_firstY 32 (bm 45 8589934591) rfl rfl rfl rfl rfl rfl (by kernel_rfl) (by kernel_rfl) ⟨[0], by decide, rfl⟩ (qt_rd (rd_move rfl)) ?_
                refine ga_firstY 33 (bm 45 17179869183) rfl rfl rfl rfl rfl rfl (by kernel_rfl) (by kernel_rfl) ⟨[0], by decide, rfl⟩ (qt_rd (rd_move rfl)) ?_
                refine ga_firstY 34 (bm 45 34359738367) rfl rfl rfl rfl rfl rfl (by kernel_rfl) (by kernel_rfl) ⟨[0], by decide, rfl⟩ (qt_rd (rd_nilCheck rfl)) ?_
                refine ga_firstY 35 (bm 45 68719476735) rfl rfl rfl rfl rfl rfl (by kernel_rfl) (by kernel_rfl) ⟨[0], by decide, rfl⟩ (qt_rd (rd_fieldAddr rfl (fa_76_2 _))) ?_
                refine ga_firstY 36 (bm 45 137438953471) rfl rfl rfl rfl rfl rfl (by kernel_rfl) (by kernel_rfl) ⟨[0], by decide, rfl⟩ (qt_rd (rd_load Try.underlying25 rfl rfl (ld_sl hP rfl))) ?_
                refine ga_firstY 37 (bm 45 274877906943) rfl rfl rfl rfl rfl rfl (by kernel_rfl) (by kernel_rfl) ⟨[0], by decide, rfl⟩ (qt_rd (rd_move rfl)) ?_
                refine ga_firstY 38 (bm 45 549755813887) rfl rfl rfl rfl rfl rfl (by kernel_rfl) (by kernel_rfl) ⟨[0], by decide, rfl⟩ (qt_rd (rd_indexOld1 hA Try.underlying25 ty_2 rfl rfl (by omega) (by omega))) ?_
                refine ga_firstY 39 (bm 45 1099511627775) rfl rfl rfl rfl rfl rfl (by kernel_rfl) (by kernel_rfl) ⟨[0], by decide, rfl⟩ (qt_rd (rd_load Try.underlying2 rfl rfl (ld_slN hA (get_atQ (k := k) (by omega))))) ?_
                refine ga_firstY 40 (bm 45 2199023255551) rfl rfl rfl rfl rfl rfl (by kernel_rfl) (by kernel_rfl) ⟨[0], by decide, rfl⟩ (qt_rd (rd_fieldAddr rfl (fa_48_2 _))) ?_
                refine ga_firstY 41 (bm 45 4398046511103) rfl rfl rfl rfl rfl rfl (by kernel_rfl) (by kernel_rfl) ⟨[0], by decide, rfl⟩ (qt_rd (rd_load Try.underlying2 rfl rfl (by exact ld_blk 0 rfl rfl))) ?_
                refine ga_firstY 42 (bm 45 8796093022207) rfl rfl rfl rfl rfl rfl (by kernel_rfl) (by kernel_rfl) ⟨[0], by decide, rfl⟩ (qt_rd (by exact rd_addN rfl rfl (by omega))) ?_
                refine ga_firstY 43 (bm 45 17592186044415) rfl rfl rfl rfl rfl rfl (by kernel_rfl) (by kernel_rfl) ⟨[0], by decide, rfl⟩ (qt_rd (rd_lss rfl rfl)) (gk_dec (fun h113 => ?_) (fun h113 => ?_))
                · refine ga_first 44 (bm 45 35184372088831) rfl rfl rfl rfl (by kernel_rfl) (by kernel_rfl) ⟨[0], by decide, rfl⟩ (qt_rd (rd_pick_t rfl rfl)) ?_
                  refine ga_end (by kernel_rfl) (.inr ⟨[0], by decide, rfl⟩) ?_
                  refine gx_then <| gc_cond_t rfl <| gc_region <| gl_op <| op_rd rfl (rd_move rfl) <| gl_op (op_rd rfl (by exact rd_addN (b := 1) rfl rfl (by omega)) ?_)
                  refine gl_op <| op_rd rfl (rd_assign rfl) <| gl_nil <| gx_block <| gx_then <| gc_region <| gl_op (op_rd rfl (by exact rd_addN (b := 1) rfl rfl (by omega)) ?_)
                  refine gl_op <| op_rd rfl (rd_move rfl) <| gl_nil <| gx_then ?_
                  rw [← cnt_yes hz h76 (by omega)]
                  exact gx_cut (k + 1) ⟨by omega, by omega⟩ ⟨rfl, rfl, rfl, rfl, rfl, rfl, rfl, rfl, rfl, rfl, trivial⟩ ⟨[], by decide, rfl⟩
                refine ga_first 44 (bm 45 35184372088831) rfl rfl rfl rfl (by kernel_rfl) (by kernel_rfl) ⟨[0], by decide, rfl⟩ (qt_rd (rd_pick_t rfl rfl)) ?_
                refine ga_end (by kernel_rfl) (.inr ⟨[0], by decide, rfl⟩) ?_
                refine gx_then <| gc_cond_f rfl <| gc_skip <| gx_block <| gx_then <| gc_region <| gl_op (op_rd rfl (by exact rd_addN (b := 1) rfl rfl (by omega)) ?_)
                refine gl_op <| op_rd rfl (rd_move rfl) <| gl_nil <| gx_then ?_
                rw [← cnt_no hz (.inr (by omega))]
                exact gx_cut (k + 1) ⟨by omega, by omega⟩ ⟨rfl, rfl, rfl, rfl, rfl, rfl, rfl, rfl, rfl, rfl, trivial⟩ ⟨[], by decide, rfl⟩
              refine ga_first 30 (bm 45 2147483647) rfl rfl rfl rfl (by kernel_rfl) (by kernel_rfl) ⟨[0], by decide, rfl⟩ (qt_rd (rd_pick_t rfl rfl)) ?_
              refine ga_first 31 (bm 45 4294967295) rfl rfl rfl rfl (by kernel_rfl) (by kernel_rfl) ⟨[0], by decide, rfl⟩ (qt_rd (rd_move rfl)) ?_
              refine ga_firstN 32 (bm 45 8589934591) rfl rfl rfl rfl rfl rfl (by kernel_rfl) (by kernel_rfl) ⟨[0], by decide, rfl⟩ ?_
              refine ga_firstN 33 (bm 45 17179869183) rfl rfl rfl rfl rfl rfl (by kernel_rfl) (by kernel_rfl) ⟨[0], by decide, rfl⟩ ?_
              refine ga_firstN 34 (bm 45 34359738367) rfl rfl rfl rfl rfl rfl (by kernel_rfl) (by kernel_rfl) ⟨[0], by decide, rfl⟩ ?_
              refine ga_firstN 35 (bm 45 68719476735) rfl rfl rfl rfl rfl rfl (by kernel_rfl) (by kernel_rfl) ⟨[0], by decide, rfl⟩ ?_
              refine ga_firstN 36 (bm 45 137438953471) rfl rfl rfl rfl rfl rfl (by kernel_rfl) (by kernel_rfl) ⟨[0], by decide, rfl⟩ ?_
              refine ga_firstN 37 (bm 45 274877906943) rfl rfl rfl rfl rfl rfl (by kernel_rfl) (by kernel_rfl) ⟨[0], by decide, rfl⟩ ?_
              refine ga_firstN 38 (bm 45 549755813887) rfl rfl rfl rfl rfl rfl (by kernel_rfl) (by kernel_rfl) ⟨[0], by decide, rfl⟩ ?_
              refine ga_firstN 39 (bm 45 1099511627775) rfl rfl rfl rfl rfl rfl (by kernel_rfl) (by kernel_rfl) ⟨[0], by decide, rfl⟩ ?_
              refine ga_firstN 40 (bm 45 2199023255551) rfl rfl rfl rfl rfl rfl (by kernel_rfl) (by kernel_rfl) ⟨[0], by decide, rfl⟩ ?_
              refine ga_firstN 41 (bm 45 4398046511103) rfl rfl rfl rfl rfl rfl (by kernel_rfl) (by kernel_rfl) ⟨[0], by decide, rfl⟩ ?_
              refine ga_firstN 42 (bm 45 8796093022207) rfl rfl rfl rfl rfl rfl (by kernel_rfl) (by kernel_rfl) ⟨[0], by decide, rfl⟩ ?_
              refine ga_firstN 43 (bm 45 17592186044415) rfl rfl rfl rfl rfl rfl (by kernel_rfl) (by kernel_rfl) ⟨[0], by decide, rfl⟩ ?_
              refine ga_first 44 (bm 45 35184372088831) rfl rfl rfl rfl (by kernel_rfl) (by kernel_rfl) ⟨[0], by decide, rfl⟩ (qt_rd (rd_pick_f rfl rfl)) ?_
              refine ga_end (by kernel_rfl) (.inr ⟨[0], by decide, rfl⟩) ?_
              refine gx_then <| gc_cond_f rfl <| gc_skip <| gx_block <| gx_then <| gc_region <| gl_op (op_rd rfl (by exact rd_addN (b := 1) rfl rfl (by omega)) ?_)
              refine gl_op <| op_rd rfl (rd_move rfl) <| gl_nil <| gx_then ?_
              rw [← cnt_no hz (.inr (by omega))]
              exact gx_cut (k + 1) ⟨by omega, by omega⟩ ⟨rfl, rfl, rfl, rfl, rfl, rfl, rfl, rfl, rfl, rfl, trivial⟩ ⟨[], by decide, rfl⟩
            refine ga_first 19 (bm 45 1048575) rfl rfl rfl rfl (by kernel_rfl) (by kernel_rfl) ⟨[0], by decide, rfl⟩ (qt_rd (rd_pick_t rfl rfl)) ?_
            refine ga_first 20 (bm 45 2097151) rfl rfl rfl rfl (by kernel_rfl) (by kernel_rfl) ⟨[0], by decide, rfl⟩ (qt_rd (rd_move rfl)) ?_
            refine ga_firstN 21 (bm 45 4194303) rfl rfl rfl rfl rfl rfl (by kernel_rfl) (by kernel_rfl) ⟨[0], by decide, rfl⟩ ?_
            refine ga_firstN 22 (bm 45 8388607) rfl rfl rfl rfl rfl rfl (by kernel_rfl) (by kernel_rfl) ⟨[0], by decide, rfl⟩ ?_
            refine ga_firstN 23 (bm 45 16777215) rfl rfl rfl rfl rfl rfl (by kernel_rfl) (by kernel_rfl) ⟨[0], by decide, rfl⟩ ?_
            refine ga_firstN 24 (bm 45 33554431) rfl rfl rfl rfl rfl rfl (by kernel_rfl) (by kernel_rfl) ⟨[0], by decide, rfl⟩ ?_
            refine ga_firstN 25 (bm 45 67108863) rfl rfl rfl rfl rfl rfl (by kernel_rfl) (by kernel_rfl) ⟨[0], by decide, rfl⟩ ?_
            refine ga_firstN 26 (bm 45 134217727) rfl rfl rfl rfl rfl rfl (by kernel_rfl) (by kernel_rfl) ⟨[0], by decide, rfl⟩ ?_
            refine ga_firstN 27 (bm 45 268435455) rfl rfl rfl rfl rfl rfl (by kernel_rfl) (by kernel_rfl) ⟨[0], by decide, rfl⟩ ?_
            refine ga_firstN 28 (bm 45 536870911) rfl rfl rfl rfl rfl rfl (by kernel_rfl) (by kernel_rfl) ⟨[0], by decide, rfl⟩ ?_
            refine ga_firstN 29 (bm 45 1073741823) rfl rfl rfl rfl rfl rfl (by kernel_rfl) (by kernel_rfl) ⟨[0], by decide, rfl⟩ ?_
            refine ga_first 30 (bm 45 2147483647) rfl rfl rfl rfl (by kernel_rfl) (by kernel_rfl) ⟨[0], by decide, rfl⟩ (qt_rd (rd_pick_f rfl rfl)) ?_
            refine ga_first 31 (bm 45 4294967295) rfl rfl rfl rfl (by kernel_rfl) (by kernel_rfl) ⟨[0], by decide, rfl⟩ (qt_rd (rd_move rfl)) ?_
            refine ga_firstN 32 (bm 45 8589934591) rfl rfl rfl rfl rfl rfl (by kernel_rfl) (by kernel_rfl) ⟨[0], by decide, rfl⟩ ?_
            refine ga_firstN 33 (bm 45 17179869183) rfl rfl rfl rfl rfl rfl (by kernel_rfl) (by kernel_rfl) ⟨[0], by decide, rfl⟩ ?_
            refine ga_firstN 34 (bm 45 34359738367) rfl rfl rfl rfl rfl rfl (by kernel_rfl) (by kernel_rfl) ⟨[0], by decide, rfl⟩ ?_
            refine ga_firstN 35 (bm 45 68719476735) rfl rfl rfl rfl rfl rfl (by kernel_rfl) (by kernel_rfl) ⟨[0], by decide, rfl⟩ ?_
            refine ga_firstN 36 (bm 45 137438953471) rfl rfl rfl rfl rfl rfl (by kernel_rfl) (by kernel_rfl) ⟨[0], by decide, rfl⟩ ?_
            refine ga_firstN 37 (bm 45 274877906943) rfl rfl rfl rfl rfl rfl (by kernel_rfl) (by kernel_rfl) ⟨[0], by decide, rfl⟩ ?_
            refine ga_firstN 38 (bm 45 549755813887) rfl rfl rfl rfl rfl rfl (by kernel_rfl) (by kernel_rfl) ⟨[0], by decide, rfl⟩ ?_
            refine ga_firstN 39 (bm 45 1099511627775) rfl rfl rfl rfl rfl rfl (by kernel_rfl) (by kernel_rfl) ⟨[0], by decide, rfl⟩ ?_
            refine ga_firstN 40 (bm 45 2199023255551) rfl rfl rfl rfl rfl rfl (by kernel_rfl) (by kernel_rfl) ⟨[0], by decide, rfl⟩ ?_
            refine ga_firstN 41 (bm 45 4398046511103) rfl rfl rfl rfl rfl rfl (by kernel_rfl) (by kernel_rfl) ⟨[0], by decide, rfl⟩ ?_
            refine ga_firstN 42 (bm 45 8796093022207) rfl rfl rfl rfl rfl rfl (by kernel_rfl) (by kernel_rfl) ⟨[0], by decide, rfl⟩ ?_
            refine ga_firstN 43 (bm 45 17592186044415) rfl rfl rfl rfl rfl rfl (by kernel_rfl) (by kernel_rfl) ⟨[0], by decide, rfl⟩ ?_
            refine ga_first 44 (bm 45 35184372088831) rfl rfl rfl rfl (by kernel_rfl) (by kernel_rfl) ⟨[0], by decide, rfl⟩ (qt_rd (rd_pick_f rfl rfl)) ?_
            refine ga_end (by kernel_rfl) (.inr ⟨[0], by decide, rfl⟩) ?_
            refine gx_then <| gc_cond_f rfl <| gc_skip <| gx_block <| gx_then <| gc_region <| gl_op (op_rd rfl (by exact rd_addN (b := 1) rfl rfl (by omega)) ?_)
            refine gl_op <| op_rd rfl (rd_move rfl) <| gl_nil <| gx_then ?_
            rw [← cnt_no hz (.inr (by omega))]
            exact gx_cut (k + 1) ⟨by omega, by omega⟩ ⟨rfl, rfl, rfl, rfl, rfl, rfl, rfl, rfl, rfl, rfl, trivial⟩ ⟨[], by decide, rfl⟩
          refine ga_first 7 (bm 45 255) rfl rfl rfl rfl (by kernel_rfl) (by kernel_rfl) ⟨[0], by decide, rfl⟩ (qt_rd (rd_move rfl)) ?_
          refine ga_firstN 8 (bm 45 511) rfl rfl rfl rfl rfl rfl (by kernel_rfl) (by kernel_rfl) ⟨[0], by decide, rfl⟩ ?_
          refine ga_firstN 9 (bm 45 1023) rfl rfl rfl rfl rfl rfl (by kernel_rfl) (by kernel_rfl) ⟨[0], by decide, rfl⟩ ?_
          refine ga_firstN 10 (bm 45 2047) rfl rfl rfl rfl rfl rfl (by kernel_rfl) (by kernel_rfl) ⟨[0], by decide, rfl⟩ ?_
          refine ga_firstN 11 (bm 45 4095) rfl rfl rfl rfl rfl rfl (by kernel_rfl) (by kernel_rfl) ⟨[0], by decide, rfl⟩ ?_
          refine ga_firstN 12 (bm 45 8191) rfl rfl rfl rfl rfl rfl (by kernel_rfl) (by kernel_rfl) ⟨[0], by decide, rfl⟩ ?_
          refine ga_firstN 13 (bm 45 16383) rfl rfl rfl rfl rfl rfl (by kernel_rfl) (by kernel_rfl) ⟨[0], by decide, rfl⟩ ?_
          refine ga_firstN 14 (bm 45 32767) rfl rfl rfl rfl rfl rfl (by kernel_rfl) (by kernel_rfl) ⟨[0], by decide, rfl⟩ ?_
          refine ga_firstN 15 (bm 45 65535) rfl rfl rfl rfl rfl rfl (by kernel_rfl) (by kernel_rfl) ⟨[0], by decide, rfl⟩ ?_
          refine ga_firstN 16 (bm 45 131071) rfl rfl rfl rfl rfl rfl (by kernel_rfl) (by kernel_rfl) ⟨[0], by decide, rfl⟩ ?_
          refine ga_firstN 17 (bm 45 262143) rfl rfl rfl rfl rfl rfl (by kernel_rfl) (by kernel_rfl) ⟨[0], by decide, rfl⟩ ?_
          refine ga_firstN 18 (bm 45 524287) rfl rfl rfl rfl rfl rfl (by kernel_rfl) (by kernel_rfl) ⟨[0], by decide, rfl⟩ ?_
          refine ga_first 19 (bm 45 1048575) rfl rfl rfl rfl (by kernel_rfl) (by kernel_rfl) ⟨[0], by decide, rfl⟩ (qt_rd (rd_pick_f rfl rfl)) ?_
          refine ga_first 20 (bm 45 2097151) rfl rfl rfl rfl (by kernel_rfl) (by kernel_rfl) ⟨[0], by decide, rfl⟩ (qt_rd (rd_move rfl)) ?_
          refine ga_firstN 21 (bm 45 4194303) rfl rfl rfl rfl rfl rfl (by kernel_rfl) (by kernel_rfl) ⟨[0], by decide, rfl⟩ ?_
          refine ga_firstN 22 (bm 45 8388607) rfl rfl rfl rfl rfl rfl (by kernel_rfl) (by kernel_rfl) ⟨[0], by decide, rfl⟩ ?_
          refine ga_firstN 23 (bm 45 16777215) rfl rfl rfl rfl rfl rfl (by kernel_rfl) (by kernel_rfl) ⟨[0], by decide, rfl⟩ ?_
          refine ga_firstN 24 (bm 45 33554431) rfl rfl rfl rfl rfl rfl (by kernel_rfl) (by kernel_rfl) ⟨[0], by decide, rfl⟩ ?_
          refine ga_firstN 25 (bm 45 67108863) rfl rfl rfl rfl rfl rfl (by kernel_rfl) (by kernel_rfl) ⟨[0], by decide, rfl⟩ ?_
          refine ga_firstN 26 (bm 45 134217727) rfl rfl rfl rfl rfl rfl (by kernel_rfl) (by kernel_rfl) ⟨[0], by decide, rfl⟩ ?_
          refine ga_firstN 27 (bm 45 268435455) rfl rfl rfl rfl rfl rfl (by kernel_rfl) (by kernel_rfl) ⟨[0], by decide, rfl⟩ ?_
          refine ga_firstN 28 (bm 45 536870911) rfl rfl rfl rfl rfl rfl (by kernel_rfl) (by kernel_rfl) ⟨[0], by decide, rfl⟩ ?_
          refine ga_firstN 29 (bm 45 1073741823) rfl rfl rfl rfl rfl rfl (by kernel_rfl) (by kernel_rfl) ⟨[0], by decide, rfl⟩ ?_
          refine ga_first 30 (bm 45 2147483647) rfl rfl rfl rfl (by kernel_rfl) (by kernel_rfl) ⟨[0], by decide, rfl⟩ (qt_rd (rd_pick_f rfl rfl)) ?_
          refine ga_first 31 (bm 45 4294967295) rfl rfl rfl rfl (by kernel_rfl) (by kernel_rfl) ⟨[0], by decide, rfl⟩ (qt_rd (rd_move rfl)) ?_
          refine ga_firstN 32 (bm 45 8589934591) rfl rfl rfl rfl rfl rfl (by kernel_rfl) (by kernel_rfl) ⟨[0], by decide, rfl⟩ ?_
          refine ga_firstN 33 (bm 45 17179869183) rfl rfl rfl rfl rfl rfl (by kernel_rfl) (by kernel_rfl) ⟨[0], by decide, rfl⟩ ?_
          refine ga_firstN 34 (bm 45 34359738367) rfl rfl rfl rfl rfl rfl (by kernel_rfl) (by kernel_rfl) ⟨[0], by decide, rfl⟩ ?_
          refine ga_firstN 35 (bm 45 68719476735) rfl rfl rfl rfl rfl rfl (by kernel_rfl) (by kernel_rfl) ⟨[0], by decide, rfl⟩ ?_
          refine ga_firstN 36 (bm 45 137438953471) rfl rfl rfl rfl rfl rfl (by kernel_rfl) (by kernel_rfl) ⟨[0], by decide, rfl⟩ ?_
          refine ga_firstN 37 (bm 45 274877906943) rfl rfl rfl rfl rfl rfl (by kernel_rfl) (by kernel_rfl) ⟨[0], by decide, rfl⟩ ?_
          refine ga_firstN 38 (bm 45 549755813887) rfl rfl rfl rfl rfl rfl (by kernel_rfl) (by kernel_rfl) ⟨[0], by decide, rfl⟩ ?_
          refine ga_firstN 39 (bm 45 1099511627775) rfl rfl rfl rfl rfl rfl (by kernel_rfl) (by kernel_rfl) ⟨[0], by decide, rfl⟩ ?_
          refine ga_firstN 40 (bm 45 2199023255551) rfl rfl rfl rfl rfl rfl (by kernel_rfl) (by kernel_rfl) ⟨[0], by decide, rfl⟩ ?_
          refine ga_firstN 41 (bm 45 4398046511103) rfl rfl rfl rfl rfl rfl (by kernel_rfl) (by kernel_rfl) ⟨[0], by decide, rfl⟩ ?_
          refine ga_firstN 42 (bm 45 8796093022207) rfl rfl rfl rfl rfl rfl (by kernel_rfl) (by kernel_rfl) ⟨[0], by decide, rfl⟩ ?_
          refine ga_firstN 43 (bm 45 17592186044415) rfl rfl rfl rfl rfl rfl (by kernel_rfl) (by kernel_rfl) ⟨[0], by decide, rfl⟩ ?_
          refine ga_first 44 (bm 45 35184372088831) rfl rfl rfl rfl (by kernel_rfl) (by kernel_rfl) ⟨[0], by decide, rfl⟩ (qt_rd (rd_pick_f rfl rfl)) ?_
          refine ga_end (by kernel_rfl) (.inr ⟨[0], by decide, rfl⟩) ?_
          refine gx_then <| gc_cond_f rfl <| gc_skip <| gx_block <| gx_then <| gc_region <| gl_op (op_rd rfl (by exact rd_addN (b := 1) rfl rfl (by omega)) ?_)
          refine gl_op <| op_rd rfl (rd_move rfl) <| gl_nil <| gx_then ?_
          rw [← cnt_no hz (.inl h76)]
          exact gx_cut (k + 1) ⟨by omega, by omega⟩ ⟨rfl, rfl, rfl, rfl, rfl, rfl, rfl, rfl, rfl, rfl, trivial⟩ ⟨[], by decide, rfl⟩
        have hk9 : k = l.length := by omega
        subst hk9
        refine gl_nil <| gx_then <| gc_seq <| gc_cond_f rfl <| gc_exit <| gx_then_exit <| gx_then_exit <| gx_block_exit <| gx_then <| gc_seq <| gc_drawP [] true 15 rfl <| ga_first 0 (bm 16 1) rfl rfl rfl rfl (by kernel_rfl) (by kernel_rfl) ⟨[], by decide, rfl⟩ (qt_rd (rd_move rfl)) ?_
        refine ga_first 1 (bm 16 3) rfl rfl rfl rfl (by kernel_rfl) (by kernel_rfl) ⟨[], by decide, rfl⟩ (qt_rd (rd_move rfl)) ?_
        refine ga_first 2 (bm 16 7) rfl rfl rfl rfl (by kernel_rfl) (by kernel_rfl) ⟨[], by decide, rfl⟩ (qt_rd (rd_nilCheck rfl)) ?_
        refine ga_first 3 (bm 16 15) rfl rfl rfl rfl (by kernel_rfl) (by kernel_rfl) ⟨[], by decide, rfl⟩ (qt_rd (rd_fieldAddr rfl (fa_76_0 _))) ?_
        refine ga_first 4 (bm 16 31) rfl rfl rfl rfl (by kernel_rfl) (by kernel_rfl) ⟨[], by decide, rfl⟩ (qt_rd (rd_load Try.underlying29 rfl rfl (ld_sl hP rfl))) ?_
        refine ga_first 5 (bm 16 63) rfl rfl rfl rfl (by kernel_rfl) (by kernel_rfl) ⟨[], by decide, rfl⟩ (qt_rd (rd_move rfl)) ?_
        refine ga_first 6 (bm 16 127) rfl rfl rfl rfl (by kernel_rfl) (by kernel_rfl) ⟨[], by decide, rfl⟩ (qt_rd (rd_nilCheck rfl)) ?_
        refine ga_first 7 (bm 16 255) rfl rfl rfl rfl (by kernel_rfl) (by kernel_rfl) ⟨[], by decide, rfl⟩ (qt_rd (rd_fieldAddr rfl (fa_76_1 _))) ?_
        refine ga_first 8 (bm 16 511) rfl rfl rfl rfl (by kernel_rfl) (by kernel_rfl) ⟨[], by decide, rfl⟩ (qt_rd (rd_load Try.underlying22 rfl rfl (ld_sl hP rfl))) ?_
        refine ga_first 9 (bm 16 1023) rfl rfl rfl rfl (by kernel_rfl) (by kernel_rfl) ⟨[], by decide, rfl⟩ (qt_rd (rd_move rfl)) ?_
        refine ga_first 10 (bm 16 2047) rfl rfl rfl rfl (by kernel_rfl) (by kernel_rfl) ⟨[], by decide, rfl⟩ (qt_rd (rd_indexOld hJ.t Try.underlying22 ty_48 rfl rfl (by omega) (by omega))) ?_
        refine ga_first 11 (bm 16 4095) rfl rfl rfl rfl (by kernel_rfl) (by kernel_rfl) ⟨[], by decide, rfl⟩ (qt_rd (rd_fieldAddr rfl (fa_48_1 _))) ?_
        refine ga_first 12 (bm 16 8191) rfl rfl rfl rfl (by kernel_rfl) (by kernel_rfl) ⟨[], by decide, rfl⟩ (qt_rd (rd_load Try.underlying3 rfl rfl (ld_slf hJ.t (get_flat Jb.cells 4 (fun _ => rfl) hx (j := 1) (by decide) rfl)))) ?_
        refine ga_first 13 (bm 16 16383) rfl rfl rfl rfl (by kernel_rfl) (by kernel_rfl) ⟨[], by decide, rfl⟩ (qt_rd (rd_indexOld1 hS Try.underlying29 ty_3 rfl rfl (by omega) (by omega))) ?_
        refine ga_first 14 (bm 16 32767) rfl rfl rfl rfl (by kernel_rfl) (by kernel_rfl) ⟨[], by decide, rfl⟩ (qt_rd (rd_load Try.underlying3 rfl rfl (ld_slN hS (get_intL hs)))) ?_
        refine ga_first 15 (bm 16 65535) rfl rfl rfl rfl (by kernel_rfl) (by kernel_rfl) ⟨[], by decide, rfl⟩ (qt_rd (rd_geq rfl rfl)) (gk_dec (fun h133 => ?_) (fun h133 => ?_))
        · refine ga_end (by kernel_rfl) (.inr ⟨[], by decide, rfl⟩) ?_
          refine gx_then <| gc_cond_t rfl <| gc_seq <| gc_region <| gl_op <| op_rd rfl (rd_assign rfl) <| gl_nil <| gx_then <| gc_ret <| gx_block_ret <| gx_then_ret <| gx_then_ret <| gx_block_ret <| gx_then_ret <| gx_ret1 (.inl rfl) Try.results74 rfl [] (by decide) ?_
          refine ⟨congrArg Value.bool (Eq.symm ?_), rfl⟩
          exact free_no (h := atN p k1) (by omega) (by omega) (by rw [hsb, hbn]; unfold cntA; omega)
        refine ga_end (by kernel_rfl) (.inr ⟨[], by decide, rfl⟩) ?_
        refine gx_then <| gc_cond_f rfl <| gc_skip <| gx_block <| gx_then <| gc_region <| gl_op <| op_rd rfl (rd_move rfl) <| gl_op (op_rd rfl (by exact rd_addN (b := 1) rfl rfl (by omega)) ?_)
        refine gl_op <| op_rd rfl (rd_assign rfl) <| gl_nil <| gx_then ?_
        rw [show ((k1 + 1 : Nat) : Int) = ((k1 + 1 + 1 : Nat) : Int) - 1 by omega]
        exact gx_cut (k1 + 1 + 1) ⟨⟨by omega, fun _ => hz0 (by omega), fun q hq hp h1 h2 => by
          rcases Nat.lt_or_ge (q + 1) (k1 + 1) with h9 | h9
          · exact hall q h9 hp h1 h2
          · have h8 : q = k1 := by omega
            subst h8
            (unfold cntA; omega)⟩, by omega⟩ ⟨rfl, rfl, rfl, rfl, rfl, trivial⟩ ⟨[], by decide, rfl⟩
      refine gl_op <| op_rd rfl (rd_not rfl) <| gl_op <| op_rd rfl (rd_move rfl) <| gl_no rfl rfl rfl <| gl_no rfl rfl rfl <| gl_no rfl rfl rfl <| gl_op <| op_rd rfl (rd_pick_t rfl rfl) <| gl_op <| op_rd rfl (rd_move rfl) <| gl_no rfl rfl rfl <| gl_no rfl rfl rfl <| gl_no rfl rfl rfl <| gl_op <| op_rd rfl (rd_pick_t rfl rfl) <| gl_nil <| gx_then <| gc_cond_t rfl <| gc_exit <| gx_then_exit <| gx_block_exit <| gx_then <| gc_region <| gl_op <| op_rd rfl (rd_move rfl) <| gl_op (op_rd rfl (by exact rd_addN (b := 1) rfl rfl (by omega)) ?_)
      refine gl_op <| op_rd rfl (rd_assign rfl) <| gl_nil <| gx_then ?_
      rw [show ((k1 + 1 : Nat) : Int) = ((k1 + 1 + 1 : Nat) : Int) - 1 by omega]
      exact gx_cut (k1 + 1 + 1) ⟨⟨by omega, fun _ => hz0 (by omega), fun q hq hp h1 h2 => by
        rcases Nat.lt_or_ge (q + 1) (k1 + 1) with h9 | h9
        · exact hall q h9 hp h1 h2
        · have h8 : q = k1 := by omega
          subst h8
          (rw [hp] at h48; cases h48; done)⟩, by omega⟩ ⟨rfl, rfl, rfl, rfl, rfl, trivial⟩ ⟨[], by decide, rfl⟩
    omega
  refine gl_nil <| gx_then <| gc_cond_f rfl <| gc_exit <| gx_then_exit <| gx_then_exit <| gx_block_exit <| gx_then <| gc_seq <| gc_region <| gl_op <| op_rd rfl (rd_assign rfl) <| gl_nil <| gx_then <| gc_ret <| gx_ret1 (.inl rfl) Try.results74 rfl [] (by decide) ?_
  refine ⟨congrArg Value.bool (Eq.symm ?_), rfl⟩
  rw [freeB_iff]
  refine free_of_starts (by rw [hsb, hbn]; exact hz0 (by omega)) fun q hq hp h1 h2 => ?_
  rw [hsb, hbn]
  exact hall q (by omega) hp h1 (by omega)
end Go.Proofs.Ytafmcflggikbfaa
namespace Go.Proofs.Ytafmcflggikbfaa
open Go.Gv
open Go.RowKit
open Go.Sn
open Go.Wk
open Sx
namespace Sx
theorem aft_bdQ {l : List Jb} (hj : JOk l) {p : Plc} (hpb : ∀ j, atN p j ≤ 100000) {i : Nat} (hi : i < l.length) : aftP1 l p i ≤ 102000 := by
  unfold aftP1
  rw [aft_le]
  intro a ha
  have h1 := hj.job i hi a ha
  have h2 := hr_bd hj a.1
  have h3 := hpb a.1
  unfold atN at h3
  omega
theorem end_at {l : List Jb} {p : Plc} {k : Nat} {z : Jb} (hz : l[k]? = some z) : endP1 l p k = atN p k + z.hours := by unfold endP1; rw [hr_at hz]
end Sx
open Sx
end Go.Proofs.Ytafmcflggikbfaa
namespace Go.Proofs.Ytafmcflggikbfaa
open Go.Gv
open Go.RowKit
open Go.Sn
open Go.Wk
open Sx
namespace Sx
def lexI : List Int → List Int → Bool
  | a :: xs, b :: ys => if a = b then lexI xs ys else decide (a < b)
  | _, _ => false
theorem lex_cast : ∀ a b : List Nat, lexI (castL a) (castL b) = lexB a b
  | [], _ => by simp [castL, lexI, lexB]
  | _ :: _, [] => by simp [castL, lexI, lexB]
  | x :: xs, y :: ys => by
    have ih := lex_cast xs ys
    unfold castL at ih ⊢
    simp only [List.map_cons, lexI, lexB]
    by_cases e : x = y
    · subst e; simp [ih]
    · rw [if_neg (by omega), if_neg e]
      rw [decide_eq_decide]; omega
theorem lex_step {a b : List Int} {k : Nat} {x y : Int} (hx : a[k]? = some x) (hy : b[k]? = some y) : lexI (a.drop k) (b.drop k) = if x = y then lexI (a.drop (k + 1)) (b.drop (k + 1)) else decide (x < y) := by
  rw [drop_at hx, drop_at hy, lexI]
theorem lex_end {a b : List Int} {k : Nat} (h : a.length ≤ k ∨ b.length ≤ k) : lexI (a.drop k) (b.drop k) = false := by
  rcases h with h | h
  · rw [List.drop_eq_nil_of_le h]; simp [lexI]
  · rw [List.drop_eq_nil_of_le h]
    cases a.drop k <;> simp [lexI]
end Sx
open Sx
set_option maxRecDepth 100000 in
set_option maxHeartbeats 1000000 in
theorem SameHours_ok (qa : Option Addr) (ca : Nat) (qb : Option Addr) (cb : Nat) (g : List Int) (hgl : g.length ≤ 140737488355328) (w0 : World) (hA : OldSl w0 [] qa g.length 1 (g.map intV)) (hB : OldSl w0 [] qb g.length 1 (g.map intV)) : Sp Try.prog 16 [.slice qa g.length ca, .slice qb g.length cb] w0 [] (RV (.bool true)) := by
  refine spec_enter Try.func16 rfl Try.ntmps16 rfl (Own.refl _) ?_
  simp only [argEnv]
  refine gc_seq <| gc_region <| gl_op <| op_rd rfl (rd_assign rfl) <| gl_nil <| gx_then <| gc_seq <| gc_seq <| gc_region <| gl_op <| op_rd rfl (rd_assign rfl) <| gl_nil <| gx_then <| gc_block <| gc_loopF (ι := Nat) [(0, _), (1, _)] [] (fun k => k ≤ g.length) (fun k Fr0 => ((5, natV k) :: Fr0)) (fun k Fr0 => Fr0) (fun k => g.length - k) 0 (Nat.zero_le _) ⟨rfl, rfl, rfl, trivial⟩ ⟨[], by decide, rfl⟩ ?_
  rintro k hk
  refine gc_seq <| gc_seq <| gc_region <| gl_op <| op_rd rfl (rd_move rfl) <| gl_op <| op_rd rfl (rd_move rfl) <| gl_op <| op_rd rfl (rd_lenSlice Try.underlying25 rfl) <| gl_op (op_rd rfl (rd_lss rfl rfl) (gk_dec (fun h9 => ?_) (fun h9 => ?_)))
  · refine gl_op <| op_rd rfl (rd_move rfl) <| gl_yes rfl rfl <| op_rd rfl (rd_move rfl) <| gl_yes rfl rfl <| op_rd rfl (rd_move rfl) <| gl_yes rfl rfl <| op_rd rfl (rd_lenSlice Try.underlying25 rfl) <| gl_yes rfl rfl (op_rd rfl (rd_lss rfl rfl) (gk_dec (fun h14 => ?_) (fun h14 => ?_)))
    · obtain ⟨x, hx⟩ := get_some (show k < g.length by omega)
      refine gl_op <| op_rd rfl (rd_pick_t rfl rfl) <| gl_nil <| gx_then <| gc_cond_t rfl <| gc_skip <| gx_then <| gc_seq <| gc_block <| gc_seq <| gc_drawP [] true 8 rfl <| ga_first 0 (bm 9 1) rfl rfl rfl rfl (by kernel_rfl) (by kernel_rfl) ⟨[], by decide, rfl⟩ (qt_rd (rd_move rfl)) ?_
      refine ga_first 1 (bm 9 3) rfl rfl rfl rfl (by kernel_rfl) (by kernel_rfl) ⟨[], by decide, rfl⟩ (qt_rd (rd_move rfl)) ?_
      refine ga_first 2 (bm 9 7) rfl rfl rfl rfl (by kernel_rfl) (by kernel_rfl) ⟨[], by decide, rfl⟩ (qt_rd (rd_indexOld1 hA Try.underlying25 ty_2 rfl rfl (by omega) (by omega))) ?_
      refine ga_first 3 (bm 9 15) rfl rfl rfl rfl (by kernel_rfl) (by kernel_rfl) ⟨[], by decide, rfl⟩ (qt_rd (rd_load Try.underlying2 rfl rfl (ld_slN hA (get_intL hx)))) ?_
      refine ga_first 4 (bm 9 31) rfl rfl rfl rfl (by kernel_rfl) (by kernel_rfl) ⟨[], by decide, rfl⟩ (qt_rd (rd_move rfl)) ?_
      refine ga_first 5 (bm 9 63) rfl rfl rfl rfl (by kernel_rfl) (by kernel_rfl) ⟨[], by decide, rfl⟩ (qt_rd (rd_move rfl)) ?_
      refine ga_first 6 (bm 9 127) rfl rfl rfl rfl (by kernel_rfl) (by kernel_rfl) ⟨[], by decide, rfl⟩ (qt_rd (rd_indexOld1 hB Try.underlying25 ty_2 rfl rfl (by omega) (by omega))) ?_
      refine ga_first 7 (bm 9 255) rfl rfl rfl rfl (by kernel_rfl) (by kernel_rfl) ⟨[], by decide, rfl⟩ (qt_rd (rd_load Try.underlying2 rfl rfl (ld_slN hB (get_intL hx)))) ?_
      refine ga_first 8 (bm 9 511) rfl rfl rfl rfl (by kernel_rfl) (by kernel_rfl) ⟨[], by decide, rfl⟩ (qt_rd (rd_neq rfl rfl)) (gk_dec (fun h26 => ?_) (fun h26 => ?_))
      · exact absurd rfl h26
      refine ga_end (by kernel_rfl) (.inr ⟨[], by decide, rfl⟩) ?_
      refine gx_then <| gc_cond_f rfl <| gc_skip <| gx_block <| gx_then <| gc_region <| gl_op <| op_rd rfl (rd_move rfl) <| gl_op (op_rd rfl (by exact rd_addN (b := 1) rfl rfl (by omega)) ?_)
      refine gl_op <| op_rd rfl (rd_assign rfl) <| gl_nil <| gx_then ?_
      exact gx_cut (k + 1) ⟨by omega, by omega⟩ ⟨rfl, rfl, rfl, trivial⟩ ⟨[], by decide, rfl⟩
    refine gl_op <| op_rd rfl (rd_pick_t rfl rfl) <| gl_nil <| gx_then <| gc_cond_f rfl <| gc_exit <| gx_then_exit <| gx_then_exit <| gx_block_exit <| gx_then <| gc_seq <| gc_region <| gl_op <| op_rd rfl (rd_move rfl) <| gl_op <| op_rd rfl (rd_lenSlice Try.underlying25 rfl) <| gl_op <| op_rd rfl (rd_move rfl) <| gl_op <| op_rd rfl (rd_lenSlice Try.underlying25 rfl) <| gl_op <| op_rd rfl (rd_eql rfl rfl) <| gl_op <| op_rd rfl (rd_assign rfl) <| gl_nil <| gx_then <| gc_ret <| gx_ret1 (.inl rfl) Try.results16 rfl [] (by decide) ?_
    exact ⟨congrArg Value.bool (decide_eq_true rfl), rfl⟩
  refine gl_op <| op_rd rfl (rd_move rfl) <| gl_no rfl rfl rfl <| gl_no rfl rfl rfl <| gl_no rfl rfl rfl <| gl_no rfl rfl rfl <| gl_op <| op_rd rfl (rd_pick_f rfl rfl) <| gl_nil <| gx_then <| gc_cond_f rfl <| gc_exit <| gx_then_exit <| gx_then_exit <| gx_block_exit <| gx_then <| gc_seq <| gc_region <| gl_op <| op_rd rfl (rd_move rfl) <| gl_op <| op_rd rfl (rd_lenSlice Try.underlying25 rfl) <| gl_op <| op_rd rfl (rd_move rfl) <| gl_op <| op_rd rfl (rd_lenSlice Try.underlying25 rfl) <| gl_op <| op_rd rfl (rd_eql rfl rfl) <| gl_op <| op_rd rfl (rd_assign rfl) <| gl_nil <| gx_then <| gc_ret ?_
  refine gx_ret1 (.inl rfl) Try.results16 rfl [] (by decide) ?_
  exact ⟨congrArg Value.bool (decide_eq_true rfl), rfl⟩
set_option maxRecDepth 100000 in
set_option maxHeartbeats 1000000 in
theorem SameInts_ok (qa : Option Addr) (ca : Nat) (qb : Option Addr) (cb : Nat) (g : List Int) (hgl : g.length ≤ 140737488355328) (w0 : World) (hA : OldSl w0 [] qa g.length 1 (g.map intV)) (hB : OldSl w0 [] qb g.length 1 (g.map intV)) : Sp Try.prog 17 [.slice qa g.length ca, .slice qb g.length cb] w0 [] (RV (.bool true)) := by
  refine spec_enter Try.func17 rfl Try.ntmps17 rfl (Own.refl _) ?_
  simp only [argEnv]
  refine gc_seq <| gc_region <| gl_op <| op_rd rfl (rd_assign rfl) <| gl_nil <| gx_then <| gc_seq <| gc_seq <| gc_region <| gl_op <| op_rd rfl (rd_assign rfl) <| gl_nil <| gx_then <| gc_block <| gc_loopF (ι := Nat) [(0, _), (1, _)] [] (fun k => k ≤ g.length) (fun k Fr0 => ((5, natV k) :: Fr0)) (fun k Fr0 => Fr0) (fun k => g.length - k) 0 (Nat.zero_le _) ⟨rfl, rfl, rfl, trivial⟩ ⟨[], by decide, rfl⟩ ?_
  rintro k hk
  refine gc_seq <| gc_seq <| gc_region <| gl_op <| op_rd rfl (rd_move rfl) <| gl_op <| op_rd rfl (rd_move rfl) <| gl_op <| op_rd rfl (rd_lenSlice Try.underlying29 rfl) <| gl_op (op_rd rfl (rd_lss rfl rfl) (gk_dec (fun h9 => ?_) (fun h9 => ?_)))
  · refine gl_op <| op_rd rfl (rd_move rfl) <| gl_yes rfl rfl <| op_rd rfl (rd_move rfl) <| gl_yes rfl rfl <| op_rd rfl (rd_move rfl) <| gl_yes rfl rfl <| op_rd rfl (rd_lenSlice Try.underlying29 rfl) <| gl_yes rfl rfl (op_rd rfl (rd_lss rfl rfl) (gk_dec (fun h14 => ?_) (fun h14 => ?_)))
    · obtain ⟨x, hx⟩ := get_some (show k < g.length by omega)
      refine gl_op <| op_rd rfl (rd_pick_t rfl rfl) <| gl_nil <| gx_then <| gc_cond_t rfl <| gc_skip <| gx_then <| gc_seq <| gc_block <| gc_seq <| gc_drawP [] true 8 rfl <| ga_first 0 (bm 9 1) rfl rfl rfl rfl (by kernel_rfl) (by kernel_rfl) ⟨[], by decide, rfl⟩ (qt_rd (rd_move rfl)) ?_
      refine ga_first 1 (bm 9 3) rfl rfl rfl rfl (by kernel_rfl) (by kernel_rfl) ⟨[], by decide, rfl⟩ (qt_rd (rd_move rfl)) ?_
      refine ga_first 2 (bm 9 7) rfl rfl rfl rfl (by kernel_rfl) (by kernel_rfl) ⟨[], by decide, rfl⟩ (qt_rd (rd_indexOld1 hA Try.underlying29 ty_3 rfl rfl (by omega) (by omega))) ?_
      refine ga_first 3 (bm 9 15) rfl rfl rfl rfl (by kernel_rfl) (by kernel_rfl) ⟨[], by decide, rfl⟩ (qt_rd (rd_load Try.underlying3 rfl rfl (ld_slN hA (get_intL hx)))) ?_
      refine ga_first 4 (bm 9 31) rfl rfl rfl rfl (by kernel_rfl) (by kernel_rfl) ⟨[], by decide, rfl⟩ (qt_rd (rd_move rfl)) ?_
      refine ga_first 5 (bm 9 63) rfl rfl rfl rfl (by kernel_rfl) (by kernel_rfl) ⟨[], by decide, rfl⟩ (qt_rd (rd_move rfl)) ?_
      refine ga_first 6 (bm 9 127) rfl rfl rfl rfl (by kernel_rfl) (by kernel_rfl) ⟨[], by decide, rfl⟩ (qt_rd (rd_indexOld1 hB Try.underlying29 ty_3 rfl rfl (by omega) (by omega))) ?_
      refine ga_first 7 (bm 9 255) rfl rfl rfl rfl (by kernel_rfl) (by kernel_rfl) ⟨[], by decide, rfl⟩ (qt_rd (rd_load Try.underlying3 rfl rfl (ld_slN hB (get_intL hx)))) ?_
      refine ga_first 8 (bm 9 511) rfl rfl rfl rfl (by kernel_rfl) (by kernel_rfl) ⟨[], by decide, rfl⟩ (qt_rd (rd_neq rfl rfl)) (gk_dec (fun h26 => ?_) (fun h26 => ?_))
      · exact absurd rfl h26
      refine ga_end (by kernel_rfl) (.inr ⟨[], by decide, rfl⟩) ?_
      refine gx_then <| gc_cond_f rfl <| gc_skip <| gx_block <| gx_then <| gc_region <| gl_op <| op_rd rfl (rd_move rfl) <| gl_op (op_rd rfl (by exact rd_addN (b := 1) rfl rfl (by omega)) ?_)
      refine gl_op <| op_rd rfl (rd_assign rfl) <| gl_nil <| gx_then ?_
      exact gx_cut (k + 1) ⟨by omega, by omega⟩ ⟨rfl, rfl, rfl, trivial⟩ ⟨[], by decide, rfl⟩
    refine gl_op <| op_rd rfl (rd_pick_t rfl rfl) <| gl_nil <| gx_then <| gc_cond_f rfl <| gc_exit <| gx_then_exit <| gx_then_exit <| gx_block_exit <| gx_then <| gc_seq <| gc_region <| gl_op <| op_rd rfl (rd_move rfl) <| gl_op <| op_rd rfl (rd_lenSlice Try.underlying29 rfl) <| gl_op <| op_rd rfl (rd_move rfl) <| gl_op <| op_rd rfl (rd_lenSlice Try.underlying29 rfl) <| gl_op <| op_rd rfl (rd_eql rfl rfl) <| gl_op <| op_rd rfl (rd_assign rfl) <| gl_nil <| gx_then <| gc_ret <| gx_ret1 (.inl rfl) Try.results17 rfl [] (by decide) ?_
    exact ⟨congrArg Value.bool (decide_eq_true rfl), rfl⟩
  refine gl_op <| op_rd rfl (rd_move rfl) <| gl_no rfl rfl rfl <| gl_no rfl rfl rfl <| gl_no rfl rfl rfl <| gl_no rfl rfl rfl <| gl_op <| op_rd rfl (rd_pick_f rfl rfl) <| gl_nil <| gx_then <| gc_cond_f rfl <| gc_exit <| gx_then_exit <| gx_then_exit <| gx_block_exit <| gx_then <| gc_seq <| gc_region <| gl_op <| op_rd rfl (rd_move rfl) <| gl_op <| op_rd rfl (rd_lenSlice Try.underlying29 rfl) <| gl_op <| op_rd rfl (rd_move rfl) <| gl_op <| op_rd rfl (rd_lenSlice Try.underlying29 rfl) <| gl_op <| op_rd rfl (rd_eql rfl rfl) <| gl_op <| op_rd rfl (rd_assign rfl) <| gl_nil <| gx_then <| gc_ret ?_
  refine gx_ret1 (.inl rfl) Try.results17 rfl [] (by decide) ?_
  exact ⟨congrArg Value.bool (decide_eq_true rfl), rfl⟩
set_option maxRecDepth 100000 in
set_option maxHeartbeats 1000000 in
theorem nan_ok (t : Int) (w0 : World) : Sp Try.prog 76 [.int .i64 t] w0 [] (RV (.bool false)) := by
  refine spec_enter Try.func76 rfl Try.ntmps76 rfl (Own.refl _) ?_
  simp only [argEnv]
  refine gc_seq <| gc_region <| gl_op <| op_rd rfl (rd_assign rfl) <| gl_nil <| gx_then <| gc_seq <| gc_region <| gl_op <| op_rd rfl (rd_move rfl) <| gl_op <| op_rd rfl (rd_move rfl) <| gl_op <| op_rd rfl (rd_neq rfl rfl) <| gl_op <| op_rd rfl (rd_assign rfl) <| gl_nil <| gx_then <| gc_ret <| gx_ret1 (.inl rfl) Try.results76 rfl [] (by decide) ?_
  exact ⟨congrArg Value.bool (decide_eq_false (fun h => h rfl)), rfl⟩
set_option maxRecDepth 100000 in
set_option maxHeartbeats 1000000 in
theorem cmp_ok (t u : Int) (w0 : World) : Sp Try.prog 70 [.int .i64 t, .int .i64 u] w0 [] (fun v L => ∃ r : Int, v = .int .i64 r ∧ L = [] ∧ (r < 0 ↔ t < u) ∧ (r = 0 ↔ t = u)) := by
  refine spec_enter Try.func70 rfl Try.ntmps70 rfl (Own.refl _) ?_
  simp only [argEnv]
  refine gc_seq <| gc_region <| gl_op <| op_rd rfl (rd_assign rfl) <| gl_nil <| gx_then <| gc_seq <| gc_region <| gl_op <| op_rd rfl (rd_move rfl) <| gl_op (op_call rfl (vf := []) (vc := []) rfl rfl Try.call76 (fun w1 ho => nan_ok t w1) ?_)
  rintro _ _ ⟨rfl, rfl⟩
  refine gl_op <| op_rd rfl (rd_assign rfl) <| gl_nil <| gx_then <| gc_seq <| gc_region <| gl_op <| op_rd rfl (rd_move rfl) <| gl_op (op_call rfl (vf := []) (vc := []) rfl rfl Try.call76 (fun w1 ho => nan_ok u w1) ?_)
  rintro _ _ ⟨rfl, rfl⟩
  refine gl_op <| op_rd rfl (rd_assign rfl) <| gl_nil <| gx_then <| gc_seq <| gc_seq <| gc_region <| gl_op <| op_rd rfl (rd_move rfl) <| gl_nil <| gx_then <| gc_cond_f rfl <| gc_skip <| gx_then <| gc_seq <| gc_seq <| gc_region <| gl_op <| op_rd rfl (rd_move rfl) <| gl_nil <| gx_then <| gc_cond_f rfl <| gc_skip <| gx_then <| gc_seq <| gc_seq <| gc_region <| gl_op <| op_rd rfl (rd_move rfl) ?_
  refine gl_op <| op_rd rfl (rd_move rfl) <| gl_op (op_rd rfl (rd_lss rfl rfl) (gk_dec (fun h16 => ?_) (fun h16 => ?_)))
  · refine gl_nil <| gx_then <| gc_cond_t rfl <| gc_seq <| gc_region <| gl_op <| op_rd rfl (rd_assign rfl) <| gl_nil <| gx_then <| gc_ret <| gx_then_ret <| gx_ret1 (.inl rfl) Try.results70 rfl [] (by decide) ?_
    exact ⟨_, rfl, rfl, by omega, by omega⟩
  refine gl_nil <| gx_then <| gc_cond_f rfl <| gc_skip <| gx_then <| gc_seq <| gc_seq <| gc_region <| gl_op <| op_rd rfl (rd_move rfl) <| gl_op <| op_rd rfl (rd_move rfl) <| gl_op (op_rd rfl (rd_gtr rfl rfl) (gk_dec (fun h19 => ?_) (fun h19 => ?_)))
  · refine gl_nil <| gx_then <| gc_cond_t rfl <| gc_seq <| gc_region <| gl_op <| op_rd rfl (rd_assign rfl) <| gl_nil <| gx_then <| gc_ret <| gx_then_ret <| gx_ret1 (.inl rfl) Try.results70 rfl [] (by decide) ?_
    exact ⟨_, rfl, rfl, by omega, by omega⟩
  refine gl_nil <| gx_then <| gc_cond_f rfl <| gc_skip <| gx_then <| gc_seq <| gc_region <| gl_op <| op_rd rfl (rd_assign rfl) <| gl_nil <| gx_then <| gc_ret <| gx_ret1 (.inl rfl) Try.results70 rfl [] (by decide) ?_
  exact ⟨_, rfl, rfl, by omega, by omega⟩
set_option maxRecDepth 100000 in
set_option maxHeartbeats 1000000 in
theorem Compare_ok (qa : Option Addr) (ca : Nat) (qb : Option Addr) (cb : Nat) (g h : List Int) (hgl : g.length ≤ 140737488355328) (hhl : h.length ≤ 140737488355328) (hlen : g.length = h.length) (w0 : World) (hA : OldSl w0 [] qa g.length 1 (g.map intV)) (hB : OldSl w0 [] qb h.length 1 (h.map intV)) : Sp Try.prog 57 [.slice qa g.length ca, .slice qb h.length cb] w0 [] (fun v L => ∃ r : Int, v = .int .i64 r ∧ L = [] ∧ (r < 0 ↔ lexI g h = true)) := by
  refine spec_enter Try.func57 rfl Try.ntmps57 rfl (Own.refl _) ?_
  simp only [argEnv]
  refine gc_seq <| gc_region <| gl_op <| op_rd rfl (rd_assign rfl) <| gl_nil <| gx_then <| gc_seq <| gc_seq <| gc_region <| gl_op <| op_rd rfl (rd_move rfl) <| gl_op <| op_rd rfl (rd_lenSlice Try.underlying25 rfl) <| gl_op <| op_rd rfl (rd_move rfl) <| gl_nil <| gx_then <| gc_block <| gc_loopF (ι := Nat) [(0, _), (1, _), (9, _), (10, _)] [] (fun k => k ≤ g.length ∧ lexI g h = lexI (g.drop k) (h.drop k)) (fun k Fr0 => ((11, natV k) :: Fr0)) (fun k Fr0 => Fr0) (fun k => g.length - k) 0 (⟨Nat.zero_le _, rfl⟩) ⟨rfl, rfl, rfl, rfl, rfl, trivial⟩ ⟨[], by decide, rfl⟩ ?_
  rintro k ⟨hk, hle⟩
  refine gc_seq <| gc_region <| gl_op (op_rd rfl (rd_lss rfl rfl) (gk_dec (fun h12 => ?_) (fun h12 => ?_)))
  · obtain ⟨x, hx⟩ := get_some (show k < g.length by omega)
    obtain ⟨y, hy⟩ := get_some (show k < h.length by omega)
    refine gl_nil <| gx_then <| gc_seq <| gc_cond_t rfl <| gc_skip <| gx_then <| gc_seq <| gc_block <| gc_seq <| gc_region <| gl_op <| op_rd rfl (rd_move rfl) <| gl_op (op_rd rfl (rd_indexOld1 hA Try.underlying25 ty_2 rfl rfl (by omega) (by omega)) ?_)
    refine gl_op <| op_rd rfl (rd_load Try.underlying2 rfl rfl (ld_slN hA (get_intL hx))) <| gl_op <| op_rd rfl (rd_assign rfl) <| gl_op <| op_rd rfl (rd_assign rfl) <| gl_nil <| gx_then <| gc_seq <| gc_seq <| gc_region <| gl_op <| op_rd rfl (rd_move rfl) <| gl_op <| op_rd rfl (rd_move rfl) <| gl_op <| op_rd rfl (rd_lenSlice Try.underlying25 rfl) <| gl_op (op_rd rfl (rd_geq rfl rfl) (gk_dec (fun h19 => ?_) (fun h19 => ?_)))
    · omega
    refine gl_nil <| gx_then <| gc_cond_f rfl <| gc_skip <| gx_then <| gc_seq <| gc_region <| gl_op <| op_rd rfl (rd_move rfl) <| gl_op <| op_rd rfl (rd_move rfl) <| gl_op (op_rd rfl (rd_indexOld1 hB Try.underlying25 ty_2 rfl rfl (by omega) (by omega)) ?_)
    refine gl_op <| op_rd rfl (rd_load Try.underlying2 rfl rfl (ld_slN hB (get_intL hy))) <| gl_op <| op_rd rfl (rd_assign rfl) <| gl_nil <| gx_then <| gc_seq <| gc_region <| gl_op <| op_rd rfl (rd_move rfl) <| gl_op <| op_rd rfl (rd_move rfl) <| gl_op (op_call rfl (vf := []) (vc := []) rfl rfl Try.call70 (fun w1 ho => cmp_ok x y w1) ?_)
    rintro _ _ ⟨r26, rfl, rfl, hr1, hr2⟩
    refine gl_op <| op_rd rfl (rd_assign rfl) <| gl_nil <| gx_then <| gc_seq <| gc_region <| gl_op <| op_rd rfl (rd_move rfl) <| gl_op (op_rd rfl (rd_neq rfl rfl) (gk_dec (fun h28 => ?_) (fun h28 => ?_)))
    · refine gl_nil <| gx_then <| gc_cond_t rfl <| gc_seq <| gc_region <| gl_op <| op_rd rfl (rd_move rfl) <| gl_op <| op_rd rfl (rd_assign rfl) <| gl_nil <| gx_then <| gc_ret <| gx_block_ret <| gx_then_ret <| gx_then_ret <| gx_block_ret <| gx_then_ret <| gx_ret1 (.inl rfl) Try.results57 rfl [] (by decide) ?_
      refine ⟨r26, rfl, rfl, ?_⟩
      rw [hle, lex_step hx hy, if_neg (fun e => by omega), decide_eq_true_eq]
      exact hr1
    refine gl_nil <| gx_then <| gc_cond_f rfl <| gc_skip <| gx_block <| gx_then <| gc_region <| gl_op (op_rd rfl (by exact rd_addN (b := 1) rfl rfl (by omega)) ?_)
    refine gl_op <| op_rd rfl (rd_move rfl) <| gl_nil <| gx_then ?_
    exact gx_cut (k + 1) ⟨⟨by omega, by rw [hle, lex_step hx hy, if_pos (by omega)]⟩, by omega⟩ ⟨rfl, rfl, rfl, rfl, rfl, trivial⟩ ⟨[], by decide, rfl⟩
  refine gl_nil <| gx_then <| gc_seq <| gc_cond_f rfl <| gc_exit <| gx_then_exit <| gx_then_exit <| gx_block_exit <| gx_then <| gc_seq <| gc_seq <| gc_region <| gl_op <| op_rd rfl (rd_move rfl) <| gl_op <| op_rd rfl (rd_lenSlice Try.underlying25 rfl) <| gl_op <| op_rd rfl (rd_move rfl) <| gl_op <| op_rd rfl (rd_lenSlice Try.underlying25 rfl) <| gl_op (op_rd rfl (rd_lss rfl rfl) (gk_dec (fun h35 => ?_) (fun h35 => ?_)))
  · omega
  refine gl_nil <| gx_then <| gc_cond_f rfl <| gc_skip <| gx_then <| gc_seq <| gc_region <| gl_op <| op_rd rfl (rd_assign rfl) <| gl_nil <| gx_then <| gc_ret <| gx_ret1 (.inl rfl) Try.results57 rfl [] (by decide) ?_
  refine ⟨0, rfl, rfl, ?_⟩
  rw [hle, lex_end (by omega)]
  simp
end Go.Proofs.Ytafmcflggikbfaa
namespace Go.Proofs.Ytafmcflggikbfaa
open Go.Gv
open Go.RowKit
open Go.Sn
open Go.Wk
open Sx
namespace Sx
theorem eg_25 : Try.prog.eqGuardType Try.prog.depth 25 = false := by kernel_rfl
def bl (b : Option (List Nat)) : List Nat := b.getD []
/-- the best list so far in memory -/
def BestOk (b : Option (List Nat)) (rb : Option Nat) (cb n : Nat) : Prop := match b with
  | none => rb = none ∧ cb = 0
  | some g => (n ≠ 0 → rb.isSome = true) ∧ g.length = n ∧ ∀ t ∈ g, t ≤ 100000
def srR (b : Option (List Nat)) (rb : Option Nat) (cb : Nat) : HL := .row 2 1 rb (bl b).length cb ((bl b).map natV)
theorem JnIn.outB {w0 w : World} {S : List Nat} {a : Option Addr} {l : List Jb} {B : List HL} (h : JnIn a l w0 S) (ho : Own w0 S w B) (ic : List Nat) : JnIn a l w ((pick ic B).filterMap HL.block) := ⟨slOutB ho h.t (by decide) ic, fun x hx => slOutB ho (h.r x hx) (by decide) ic⟩
theorem Own.rowSome {w0 w : World} {S : List Nat} {L : List HL} (ho : Own w0 S w L) (i : Nat) {E : TypeId} {sz m cap : Nat} {r : Option Nat} {xs : List Value} (hi : L[i]? = some (.row E sz r m cap xs)) : m ≠ 0 → r.isSome = true := fun hm => by
  have h := ho.holds _ (List.mem_of_getElem? hi)
  cases r with
  | none => exact absurd h.2.1 hm
  | some k => rfl
theorem best_cases {b : Option (List Nat)} {rb : Option Nat} {cb n : Nat} (h : BestOk b rb cb n) (h0 : b = none ∨ n ≠ 0) : (b = none ∧ rb = none ∧ cb = 0) ∨ ∃ g k, b = some g ∧ rb = some k ∧ g.length = n ∧ ∀ t ∈ g, t ≤ 100000 := by
  cases b with
  | none => exact .inl ⟨rfl, h.1, h.2⟩
  | some g =>
    rcases h0 with h0 | h0
    · cases h0
    · obtain ⟨k, hk⟩ := Option.isSome_iff_exists.1 (h.1 h0)
      exact .inr ⟨g, k, rfl, hk, h.2.1, h.2.2⟩
theorem atN_bd {l : List Jb} {r : Nat} {p : Plc} (h : PlOk l r p) (h7 : l.length ≤ 7) (j : Nat) : atN p j ≤ 100000 := by
  cases hp : plB p j with
  | false => rw [h.zero j hp]; omega
  | true =>
    have hj : j < l.length := by
      apply Classical.byContradiction
      intro hno
      rw [plB_out h.li (by omega)] at hp; cases hp
    have h1 := le_soP hj hp
    have h2 := h.bd
    unfold endP1 at h1
    omega
def accQ (shop : List Int) (l : List Jb) (r : Nat) (p : Plc) (b : Option (List Nat)) (k : Nat) : Option (List Nat) := (leavesI shop l r p k).foldl (upd l) b
theorem accQ_yes {shop : List Int} {l : List Jb} {r : Nat} {p : Plc} {b : Option (List Nat)} {k : Nat} (h : readyB l p k = true) : (leaves shop l r (nextP shop l p k)).foldl (upd l) (accQ shop l r p b k) = accQ shop l r p b (k + 1) := by
  unfold accQ; rw [leavesI_yes h, List.foldl_append]
theorem accQ_no {shop : List Int} {l : List Jb} {r : Nat} {p : Plc} {b : Option (List Nat)} {k : Nat} (h : readyB l p k = false) : accQ shop l r p b (k + 1) = accQ shop l r p b k := by
  unfold accQ; rw [leavesI_no h]
end Sx
open Sx
end Go.Proofs.Ytafmcflggikbfaa
namespace Go.Proofs.Ytafmcflggikbfaa
open Go.Gv
open Go.RowKit
open Go.Sn
open Go.Wk
open Sx
namespace Sx
def benS (shop : List Int) (n : List Jb) : Bool := n.any fun x => decide (shop.length ≤ x.bench)
def planE (shop : List Int) (l : List JI) : Int :=
  if checkE l ≠ 0 then checkE l else if 7 < l.length then 3 else if shopB shop = false then 2 else if benS shop (nOf l) = true then 4 else 0
def PlanR (t : TypeId) (shop : List Int) (l : List JI) (v : Value) (L : List HL) : Prop :=
  (planE shop l ≠ 0 ∧ v = .tuple #[.slice none 0 0, .int .i64 0, .int .i64 (planE shop l)] ∧ L = []) ∨
  (planE shop l = 0 ∧ ∃ (g : List Nat) (r : Option Nat) (c : Nat), planO shop (nOf l) = some g ∧ v = .tuple #[.slice (rowA r) g.length c, natV (endF (nOf l) g), .int .i64 0] ∧ L = [.row t 1 r g.length c (g.map natV)])
theorem p0_atC (n : List Jb) : (p0 n).at_.map natV = List.replicate n.length (.int .i64 0) := by simp [p0]
theorem p0_isC (n : List Jb) : (p0 n).is.map boolV = List.replicate n.length (.bool false) := by simp [p0]
theorem planE_0 {shop : List Int} {l : List JI} (h1 : checkE l = 0) (h2 : l.length ≤ 7) (h3 : shopB shop = true) (h4 : benS shop (nOf l) = false) : planE shop l = 0 := by
  unfold planE; rw [if_neg (by omega), if_neg (by omega), if_neg (by rw [h3]; simp), if_neg (by rw [h4]; simp)]
theorem planE_4 {shop : List Int} {l : List JI} (h1 : checkE l = 0) (h2 : l.length ≤ 7) (h3 : shopB shop = true) (h4 : benS shop (nOf l) = true) : planE shop l = 4 := by
  unfold planE; rw [if_neg (by omega), if_neg (by omega), if_neg (by rw [h3]; simp), if_pos h4]
theorem planE_2 {shop : List Int} {l : List JI} (h1 : checkE l = 0) (h2 : l.length ≤ 7) (h3 : shopB shop = false) : planE shop l = 2 := by
  unfold planE; rw [if_neg (by omega), if_neg (by omega), if_pos h3]
theorem planE_3 {shop : List Int} {l : List JI} (h1 : checkE l = 0) (h2 : 7 < l.length) : planE shop l = 3 := by
  unfold planE; rw [if_neg (by omega), if_pos h2]
theorem planE_c {shop : List Int} {l : List JI} (h1 : checkE l ≠ 0) : planE shop l = checkE l := by
  unfold planE; rw [if_pos h1]
end Sx
open Sx
end Go.Proofs.Ytafmcflggikbfaa
