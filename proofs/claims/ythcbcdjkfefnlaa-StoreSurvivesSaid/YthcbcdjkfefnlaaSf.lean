import Derived.Test.YthcbcdjkfefnlaaSe
/- The plain law of the flash: what it says before and behind a write, an erasure, Open and Put, the power failing or not. -/
set_option linter.unusedSimpArgs false
set_option linter.unusedVariables false
set_option linter.unnecessarySimpa false
set_option autoImplicit false
set_option linter.unusedVariables false
namespace Go.Proofs.Ythcbcdjkfefnlaa
open Go.Gv
open Go.RowKit
open Iv
namespace Iv
/-! ### bits -/
def pcn : Nat → Nat → Nat
  | 0, _ => 0
  | n + 1, a => a % 2 + pcn n (a / 2)
theorem pc8_pcn (a : Nat) : pc8 a = pcn 8 a := by
  simp only [pc8, pcn, Nat.div_div_eq_div_mul]; omega
theorem or_step {a b : Nat} (h : a ||| b = b) : a % 2 ≤ b % 2 ∧ a / 2 ||| b / 2 = b / 2 := by
  constructor
  · have h1 : (a ||| b) % 2 = b % 2 := by rw [h]
    have h2 := Nat.or_mod_two_eq_one (a := a) (b := b)
    rcases Nat.mod_two_eq_zero_or_one a with ha | ha <;> omega
  · rw [← Nat.or_div_two, h]
theorem pcn_mono : ∀ (n : Nat) {a b : Nat}, a ||| b = b → pcn n a ≤ pcn n b
  | 0, _, _, _ => Nat.le_refl _
  | n + 1, a, b, h => by
    obtain ⟨h1, h2⟩ := or_step h
    have := pcn_mono n h2
    simp only [pcn]; omega
theorem pcn_eq : ∀ (n : Nat) {a b : Nat}, a ||| b = b → a < 2 ^ n → b < 2 ^ n → pcn n a = pcn n b → a = b
  | 0, a, b, _, ha, hb, _ => by simp at ha hb; omega
  | n + 1, a, b, h, ha, hb, he => by
    obtain ⟨h1, h2⟩ := or_step h
    have hm := pcn_mono n h2
    simp only [pcn] at he
    have := pcn_eq n h2 (by rw [Nat.pow_succ] at ha; omega) (by rw [Nat.pow_succ] at hb; omega) (by omega)
    omega
theorem pc8_mono {a b : Nat} (h : a ||| b = b) : pc8 a ≤ pc8 b := by rw [pc8_pcn, pc8_pcn]; exact pcn_mono 8 h
theorem pc8_eq {a b : Nat} (h : a ||| b = b) (ha : a < 256) (hb : b < 256) (he : pc8 a = pc8 b) : a = b := by
  rw [pc8_pcn, pc8_pcn] at he; exact pcn_eq 8 h ha hb he
/-! ### lists of bytes that lie within each other -/
def Cov : List Nat → List Nat → Prop
  | [], [] => True
  | y :: ys, z :: zs => y ||| z = z ∧ Cov ys zs
  | _, _ => False
theorem Cov.refl : ∀ ys : List Nat, Cov ys ys
  | [] => trivial
  | y :: ys => ⟨Nat.or_self y, Cov.refl ys⟩
theorem Cov.trans : ∀ {xs ys zs : List Nat}, Cov xs ys → Cov ys zs → Cov xs zs
  | [], [], [], _, _ => trivial
  | x :: xs, y :: ys, z :: zs, h1, h2 => ⟨by rw [← h2.1, ← Nat.or_assoc, h1.1], h1.2.trans h2.2⟩
  | [], _ :: _, _, h, _ => h.elim
  | _ :: _, [], _, h, _ => h.elim
  | _, [], _ :: _, _, h => h.elim
  | _, _ :: _, [], _, h => h.elim
theorem Cov.len : ∀ {ys zs : List Nat}, Cov ys zs → ys.length = zs.length
  | [], [], _ => rfl
  | y :: ys, z :: zs, h => by simp [h.2.len]
  | [], _ :: _, h => h.elim
  | _ :: _, [], h => h.elim
theorem Cov.take : ∀ {ys zs : List Nat} (k : Nat), Cov ys zs → Cov (ys.take k) (zs.take k)
  | [], [], _, _ => by simp [Cov]
  | y :: ys, z :: zs, 0, h => by simp [Cov]
  | y :: ys, z :: zs, k + 1, h => ⟨h.1, h.2.take k⟩
  | [], _ :: _, _, h => h.elim
  | _ :: _, [], _, h => h.elim
theorem Cov.at : ∀ {ys zs : List Nat} (k : Nat), Cov ys zs → gB ys k ||| gB zs k = gB zs k
  | [], [], k, _ => by simp [gB]
  | y :: ys, z :: zs, 0, h => h.1
  | y :: ys, z :: zs, k + 1, h => by have := h.2.at k; simpa [gB] using this
  | [], _ :: _, _, h => h.elim
  | _ :: _, [], _, h => h.elim
theorem Cov.of : ∀ {ys zs : List Nat}, ys.length = zs.length → (∀ k, k < ys.length → gB ys k ||| gB zs k = gB zs k) → Cov ys zs
  | [], [], _, _ => trivial
  | y :: ys, z :: zs, hl, h => ⟨by simpa [gB] using h 0 (by simp), Cov.of (by simpa using hl) fun k hk => by simpa [gB] using h (k + 1) (by simp; omega)⟩
  | [], _ :: _, h, _ => by simp at h
  | _ :: _, [], h, _ => by simp at h
theorem Cov.antisymm : ∀ {ys zs : List Nat}, Cov ys zs → Cov zs ys → ys = zs
  | [], [], _, _ => rfl
  | y :: ys, z :: zs, h1, h2 => by
    have e : y = z := by have a := h1.1; have b := h2.1; rw [Nat.or_comm] at b; omega
    rw [e, h1.2.antisymm h2.2]
  | [], _ :: _, h, _ => h.elim
  | _ :: _, [], h, _ => h.elim
theorem Cov.zeros : ∀ {ys zs : List Nat}, Cov ys zs → zerosP zs ≤ zerosP ys
  | [], [], _ => Nat.le_refl _
  | y :: ys, z :: zs, h => by
    have := h.2.zeros
    have := pc8_mono h.1
    have := pc8_le z
    simp only [zerosP]; omega
  | [], _ :: _, h => h.elim
  | _ :: _, [], h => h.elim
theorem Cov.eq_of_zeros : ∀ {ys zs : List Nat}, Cov ys zs → (∀ z ∈ ys, z < 256) → (∀ z ∈ zs, z < 256) → zerosP zs = zerosP ys → ys = zs
  | [], [], _, _, _, _ => rfl
  | y :: ys, z :: zs, h, hy, hz, e => by
    have h1 := h.2.zeros
    have h2 := pc8_mono h.1
    have h3 := pc8_le z
    have h4 := pc8_le y
    simp only [zerosP] at e
    rw [pc8_eq h.1 (hy y List.mem_cons_self) (hz z List.mem_cons_self) (by omega), h.2.eq_of_zeros (fun x hx => hy x (List.mem_cons_of_mem _ hx)) (fun x hx => hz x (List.mem_cons_of_mem _ hx)) (by omega)]
  | [], _ :: _, h, _, _, _ => h.elim
  | _ :: _, [], h, _, _, _ => h.elim
theorem or_le {a b : Nat} (h : a ||| b = b) : a ≤ b := by rw [← h]; exact Nat.left_le_or
/-! ### bytes by their place -/
theorem gB_ext {a b : List Nat} (hl : a.length = b.length) (h : ∀ k, k < a.length → gB a k = gB b k) : a = b := by
  apply List.ext_getElem hl
  intro i h1 h2
  have := h i h1
  simpa [gB, h1, h2] using this
theorem gB_part (b : List Nat) (o n k : Nat) (h : k < n) : gB ((b.drop o).take n) k = gB b (o + k) := by
  unfold gB
  rw [List.getD_eq_getElem?_getD, List.getD_eq_getElem?_getD, List.getElem?_take, if_pos h, List.getElem?_drop]
theorem gB_set (b : List Nat) (o v k : Nat) (h : o < b.length) : gB (b.set o v) k = if k = o then v else gB b k := by
  unfold gB
  rw [List.getD_eq_getElem?_getD, List.getD_eq_getElem?_getD, List.getElem?_set]
  by_cases e : o = k
  · subst e; rw [if_pos rfl, if_pos rfl, if_pos h]; rfl
  · rw [if_neg e, if_neg (by omega)]
theorem gB_mem {b : List Nat} {k : Nat} (h : k < b.length) : gB b k ∈ b := by
  have : gB b k = b[k] := by simp [gB, h]
  rw [this]; exact List.getElem_mem h
theorem gB_slot (b : List Nat) (bk sl : Nat) {k : Nat} (h : k < 24) : gB (slotB b bk sl) k = gB b (bk * 256 + sl * 24 + k) := gB_part b _ 24 k h
theorem zeros_255 : ∀ {zs : List Nat}, (∀ z ∈ zs, z < 256) → zerosP zs = 0 → ∀ z ∈ zs, z = 255
  | [], _, _, z, hz => by cases hz
  | y :: ys, h, h0, z, hz => by
    simp only [zerosP] at h0
    rcases List.mem_cons.1 hz with rfl | hz
    · have h1 : pc8 z = 8 := by have := pc8_le z; omega
      have h2 := h z List.mem_cons_self
      have h3 : z ||| 255 = 255 := by
        refine Nat.le_antisymm ?_ Nat.right_le_or
        have := Nat.or_lt_two_pow (n := 8) (show z < 2 ^ 8 by omega) (show 255 < 2 ^ 8 by decide)
        omega
      exact pc8_eq h3 h2 (by decide) (by rw [h1]; decide)
    · exact zeros_255 (fun x hx => h x (List.mem_cons_of_mem _ hx)) (by omega) z hz
theorem zeros_iff {zs : List Nat} (h : ∀ z ∈ zs, z < 256) : zerosP zs = 0 ↔ ∀ k, k < zs.length → gB zs k = 255 := by
  constructor
  · exact fun h0 k hk => zeros_255 h h0 _ (gB_mem hk)
  · intro h1
    have : zs = List.replicate zs.length 255 := gB_ext (by simp) fun k hk => by rw [h1 k hk]; simp [gB, hk]
    rw [this]; exact zeros_rep _
/-! ### what pack packs -/
structure EnV (key num : Nat) (vs : List Nat) : Prop where
  key : key ≤ 999
  num : num < 4294967296
  len : vs.length ≤ 16
  val : ∀ z ∈ vs, z < 256
theorem EnOk.v {x : En} (h : EnOk x) : EnV x.key x.num x.val := ⟨h.key, h.num, h.len, h.val⟩
def pkB (key num : Nat) (vs : List Nat) : List Nat := pk3 vs (pk2 num (pk1 key vs.length) 4)
theorem pkB_len {key num : Nat} {vs : List Nat} (h : vs.length ≤ 16) : (pkB key num vs).length = 24 := pk3_len (by rw [pk2_len, pk1_len]) h
theorem pack_pkB (key num : Nat) (vs : List Nat) : packP key num vs = (pkB key num vs).set 23 (zerosP ((pkB key num vs).take 23)) := rfl
theorem pk2_get (num : Nat) {b : List Nat} (hb : b.length = 24) : ∀ n, n ≤ 4 → ∀ k, gB (pk2 num b n) k = if 3 ≤ k ∧ k < 3 + n then (num >>> (24 - 8 * (k - 3))) % 256 else gB b k
  | 0, _, k => by rw [if_neg (by omega)]; rfl
  | n + 1, h, k => by
    rw [pk2_succ, gB_set _ _ _ _ (by rw [pk2_len, hb]; omega), pk2_get num hb n (by omega) k]
    by_cases e : k = 3 + n
    · subst e; rw [if_pos rfl, if_pos (by omega), show 3 + n - 3 = n by omega]
    · rw [if_neg e]
      by_cases e2 : 3 ≤ k ∧ k < 3 + n
      · rw [if_pos e2, if_pos (by omega)]
      · rw [if_neg e2, if_neg (by omega)]
theorem pk1_get (key len k : Nat) (hk : k < 24) : gB (pk1 key len) k = if k = 0 then key / 256 % 256 else if k = 1 then key % 256 else if k = 2 then len % 256 else 255 := by
  unfold pk1
  rw [gB_set _ _ _ _ (by simp), gB_set _ _ _ _ (by simp), gB_set _ _ _ _ (by simp), Nat.shiftRight_eq_div_pow]
  have e : gB (List.replicate 24 255) k = 255 := by unfold gB; rw [List.getD_eq_getElem?_getD, List.getElem?_replicate, if_pos hk]; rfl
  rw [e]
  by_cases h2 : k = 2
  · subst h2; rfl
  · rw [if_neg h2]
    by_cases h1 : k = 1
    · subst h1; rfl
    · rw [if_neg h1]
      by_cases h0 : k = 0
      · subst h0; rfl
      · rw [if_neg h0, if_neg h0, if_neg h1, if_neg h2]
theorem pk3_get {vs b : List Nat} (hb : b.length = 24) (hv : vs.length ≤ 16) (k : Nat) : gB (pk3 vs b) k = if k < 7 then gB b k else if k < 7 + vs.length then gB vs (k - 7) else gB b k := by
  unfold pk3 gB
  simp only [List.getD_eq_getElem?_getD, List.getElem?_append, List.length_append, List.length_take, hb, show min 7 24 = 7 from rfl]
  by_cases h7 : k < 7
  · rw [if_pos (by omega), if_pos h7, if_pos h7, List.getElem?_take, if_pos h7]
  · rw [if_neg h7]
    by_cases h8 : k < 7 + vs.length
    · rw [if_pos h8, if_neg h7, if_pos h8]
    · rw [if_neg h8, if_neg h7, if_neg h8, List.getElem?_drop, show 7 + vs.length + (k - (7 + vs.length)) = k by omega]
theorem pkB_get {key num : Nat} {vs : List Nat} (hv : vs.length ≤ 16) {k : Nat} (hk : k < 24) : gB (pkB key num vs) k = if k < 7 then (if 3 ≤ k then (num >>> (24 - 8 * (k - 3))) % 256 else if k = 0 then key / 256 % 256 else if k = 1 then key % 256 else vs.length % 256) else if k < 7 + vs.length then gB vs (k - 7) else 255 := by
  unfold pkB
  rw [pk3_get (by rw [pk2_len, pk1_len]) hv, pk2_get num (pk1_len _ _) 4 (Nat.le_refl _), pk1_get key vs.length k hk]
  by_cases h7 : k < 7
  · rw [if_pos h7, if_pos h7]
    by_cases h3 : 3 ≤ k
    · rw [if_pos (by omega), if_pos h3]
    · rw [if_neg (by omega), if_neg h3]
      by_cases h0 : k = 0
      · rw [if_pos h0, if_pos h0]
      · rw [if_neg h0, if_neg h0]
        by_cases h1 : k = 1
        · rw [if_pos h1, if_pos h1]
        · rw [if_neg h1, if_neg h1, if_pos (by omega)]
  · rw [if_neg h7, if_neg h7]
    by_cases h8 : k < 7 + vs.length
    · rw [if_pos h8, if_pos h8]
    · rw [if_neg h8, if_neg h8, if_neg (by omega), if_neg (by omega), if_neg (by omega), if_neg (by omega)]
theorem pack_get {key num : Nat} {vs : List Nat} (hv : vs.length ≤ 16) {k : Nat} (hk : k < 23) : gB (packP key num vs) k = gB (pkB key num vs) k := by
  rw [pack_pkB, gB_set _ _ _ _ (by rw [pkB_len hv]; decide), if_neg (by omega)]
theorem pack_take {key num : Nat} {vs : List Nat} (hv : vs.length ≤ 16) : (packP key num vs).take 23 = (pkB key num vs).take 23 := by
  rw [pack_pkB, List.take_set_of_le (Nat.le_refl _)]
theorem pack_23 {key num : Nat} {vs : List Nat} (hv : vs.length ≤ 16) : gB (packP key num vs) 23 = zerosP ((packP key num vs).take 23) := by
  rw [pack_take hv, pack_pkB, gB_set _ _ _ _ (by rw [pkB_len hv]; decide), if_pos rfl]
theorem shl_or {a b n : Nat} (hb : b < 2 ^ n) : a <<< n ||| b = a * 2 ^ n + b := by
  rw [← Nat.shiftLeft_add_eq_or_of_lt hb, Nat.shiftLeft_eq]
theorem pack_key {key num : Nat} {vs : List Nat} (h : EnV key num vs) : keyP (packP key num vs) = key := by
  have := h.key
  unfold keyP
  rw [pack_get h.len (by decide), pack_get h.len (by decide), pkB_get h.len (by decide), pkB_get h.len (by decide)]
  simp
  rw [shl_or (n := 8) (by omega)]
  omega
theorem pack_n {key num : Nat} {vs : List Nat} (h : EnV key num vs) {j : Nat} (hj : j < 4) : gB (packP key num vs) (3 + j) = num >>> (24 - 8 * j) % 256 := by
  rw [pack_get h.len (by omega), pkB_get h.len (by omega), if_pos (by omega), if_pos (by omega), show 3 + j - 3 = j by omega]
theorem pack_num {key num : Nat} {vs : List Nat} (h : EnV key num vs) : numTo (packP key num vs) 4 = num := by
  have := h.num
  rw [numTo_succ, numTo_succ, numTo_succ, numTo_succ, pack_n h (by decide), pack_n h (by decide), pack_n h (by decide), pack_n h (by decide)]
  simp only [Nat.shiftRight_eq_div_pow]
  rw [shl_or (n := 8) (by omega), shl_or (n := 8) (by omega), shl_or (n := 8) (by omega), shl_or (n := 8) (by omega)]
  simp [numTo]
  omega
theorem pack_2 {key num : Nat} {vs : List Nat} (h : EnV key num vs) : gB (packP key num vs) 2 = vs.length := by
  have := h.len
  rw [pack_get h.len (by decide), pkB_get h.len (by decide)]
  simp; omega
theorem pack_val {key num : Nat} {vs : List Nat} (h : EnV key num vs) : valP (packP key num vs) = vs := by
  have hl := h.len
  have hp := pack_len (key := key) (num := num) h.len
  unfold valP
  rw [pack_2 h]
  refine gB_ext (by simp [hp]; omega) fun k hk => ?_
  simp [hp] at hk
  rw [gB_part _ _ _ _ (by omega), pack_get h.len (by omega), pkB_get h.len (by omega), if_neg (by omega), if_pos (by omega), show 7 + k - 7 = k by omega]
theorem pack_good {key num : Nat} {vs : List Nat} (h : EnV key num vs) : badP (packP key num vs) = false := by
  have := h.key
  have := h.len
  unfold badP
  rw [pack_key h, pack_2 h, pack_23 h.len]
  simp; omega
/-- a place that covers a packed entry and is good is that entry -/
theorem cov_good {key num : Nat} {vs zs : List Nat} (h : EnV key num vs) (hc : Cov (packP key num vs) zs) (hz : ∀ z ∈ zs, z < 256) (hg : badP zs = false) : zs = packP key num vs := by
  have hp := pack_len (key := key) (num := num) h.len
  have hplt := pack_lt (num := num) (show key < 65536 by have := h.key; omega) h.val h.len
  have hzl := hc.len
  have h23 : gB zs 23 = zerosP (zs.take 23) := by
    unfold badP at hg
    simp only [Bool.or_eq_false_iff, decide_eq_false_iff_not] at hg
    exact Decidable.byContradiction fun e => hg.1.1 e
  have c1 := or_le (hc.at 23)
  have c2 := (hc.take 23).zeros
  have p23 := pack_23 (key := key) (num := num) h.len
  have e1 := (hc.take 23).eq_of_zeros (fun z hz' => hplt z (List.mem_of_mem_take hz')) (fun z hz' => hz z (List.mem_of_mem_take hz')) (by omega)
  refine gB_ext (by rw [hzl]) fun k hk => ?_
  by_cases e : k = 23
  · subst e; omega
  · have := congrArg (fun l => gB l k) e1
    have g1 := gB_part (packP key num vs) 0 23 k (by omega)
    have g2 := gB_part zs 0 23 k (by omega)
    simp only [List.drop_zero, Nat.zero_add] at g1 g2
    rw [← g1, ← g2, this]
theorem empty_bad {zs : List Nat} (hl : zs.length = 24) (hz : ∀ z ∈ zs, z < 256) (h : zerosP zs = 0) : badP zs = true := by
  have h0 := (zeros_iff hz).1 h 0 (by omega)
  have h1 := (zeros_iff hz).1 h 1 (by omega)
  unfold badP keyP
  rw [h0, h1]
  simp
theorem cov_255 {ys zs : List Nat} (hl : ys.length = zs.length) (hy : ∀ z ∈ ys, z < 256) (hz : ∀ z ∈ zs, z < 256) (h : zerosP zs = 0) : Cov ys zs := by
  refine Cov.of hl fun k hk => ?_
  rw [(zeros_iff hz).1 h k (by omega)]
  have := gB_lt hy k
  refine Nat.le_antisymm ?_ Nat.right_le_or
  have h2 : gB ys k ||| 255 < 2 ^ 8 := Nat.or_lt_two_pow (by omega) (by decide)
  omega
end Iv
end Go.Proofs.Ythcbcdjkfefnlaa

set_option autoImplicit false
set_option linter.unusedVariables false
namespace Go.Proofs.Ythcbcdjkfefnlaa
open Go.Gv
open Go.RowKit
open Iv
namespace Iv
theorem begins_ok {f : Fl} (hd : f.down = false) {k m : Nat} (hk : k < m) : flBegins f (k : Int) (m : Int) = 0 := by
  unfold flBegins; rw [if_neg (by omega), if_neg (by omega), if_neg (by rw [hd]; decide)]
theorem prog_at {f : Fl} (hf : f.Ok) (hd : f.down = false) {k u : Nat} (hk : k < f.b.length) :
    (((flProg f (k : Int) u).2 = 0 ∧ (flProg f (k : Int) u).1.down = false ∧ gB (flProg f (k : Int) u).1.b k = gB f.b k &&& u) ∨
     ((flProg f (k : Int) u).2 = 9 ∧ (flProg f (k : Int) u).1.down = true ∧ ∃ p, gB (flProg f (k : Int) u).1.b k = gB f.b k &&& (u ||| p))) ∧
    (∀ j, j ≠ k → gB (flProg f (k : Int) u).1.b j = gB f.b j) := by
  unfold flProg
  rw [if_neg (by rw [begins_ok hd hk]; decide), Int.toNat_natCast]
  unfold flProg1
  cases hdn : (flFails { f with pr := f.pr + 1 }).down with
  | false =>
    simp only [Bool.not_false, if_true]
    refine ⟨.inl ⟨trivial, hdn, ?_⟩, fun j hj => ?_⟩
    · rw [gB_set _ _ _ _ hk, if_pos rfl]
    · rw [gB_set _ _ _ _ hk, if_neg hj]
  | true =>
    simp only [Bool.not_true, Bool.false_eq_true, if_false]
    refine ⟨.inr ⟨trivial, hdn, ?_⟩, fun j hj => ?_⟩
    · rw [gB_set _ _ _ _ hk, if_pos rfl]
      split
      · exact ⟨gB f.picks 0, rfl⟩
      · exact ⟨0, by rw [Nat.or_zero]⟩
    · rw [gB_set _ _ _ _ hk, if_neg hj]
theorem and_255 {u : Nat} (h : u < 256) : 255 &&& u = u := by
  rw [Nat.and_comm, show 255 = 2 ^ 8 - 1 from rfl, Nat.and_two_pow_sub_one_eq_mod]; omega
theorem and_or_255 {u p : Nat} (h : u < 256) : u ||| 255 &&& (u ||| p) = 255 &&& (u ||| p) := by
  apply Nat.eq_of_testBit_eq
  intro i
  simp only [Nat.testBit_or, Nat.testBit_and]
  by_cases hi : u.testBit i = true
  · have : (255).testBit i = true := by
      have hlt : i < 8 := by
        apply Decidable.byContradiction
        intro hn
        rw [Nat.testBit_lt_two_pow (x := u) (i := i) (Nat.lt_of_lt_of_le (show u < 2 ^ 8 by omega) (Nat.pow_le_pow_right (by decide) (by omega)))] at hi
        cases hi
      rw [show 255 = 2 ^ 8 - 1 from rfl, Nat.testBit_two_pow_sub_one]
      simp [hlt]
    rw [hi, this]; rfl
  · simp only [Bool.not_eq_true] at hi
    rw [hi]; simp
theorem wr_at {f : Fl} (hf : f.Ok) (hd : f.down = false) {o : Nat} {bs : List Nat} (hb : ∀ z ∈ bs, z < 256) (hpr : f.pr + 24 < 4611686018427387904) (ho : o + 24 ≤ f.b.length) (he : ∀ i, i < 24 → gB f.b (o + i) = 255) : ∀ k, k ≤ 24 →
    (∀ j, (j < o ∨ o + 24 ≤ j) → gB (wrTo f o bs k).1.b j = gB f.b j) ∧ (∀ i, i < 24 → gB bs i ||| gB (wrTo f o bs k).1.b (o + i) = gB (wrTo f o bs k).1.b (o + i)) ∧
    (((wrTo f o bs k).2 = 0 ∧ (wrTo f o bs k).1.down = false ∧ (∀ i, i < k → gB (wrTo f o bs k).1.b (o + i) = gB bs i) ∧ (∀ i, k ≤ i → i < 24 → gB (wrTo f o bs k).1.b (o + i) = 255)) ∨ ((wrTo f o bs k).2 = 9 ∧ (wrTo f o bs k).1.down = true))
  | 0, _ => ⟨fun _ _ => rfl, fun i hi => by
      rw [show (wrTo f o bs 0).1 = f from rfl, he i hi]
      have h2 := gB_lt hb i
      refine Nat.le_antisymm ?_ Nat.right_le_or
      have := Nat.or_lt_two_pow (n := 8) (show gB bs i < 2 ^ 8 by omega) (show 255 < 2 ^ 8 by decide)
      omega, .inl ⟨rfl, hd, fun i h => absurd h (Nat.not_lt_zero _), fun i _ hi => he i hi⟩⟩
  | k + 1, hk => by
    obtain ⟨h1, h2, h3⟩ := wr_at hf hd hb hpr ho he k (by omega)
    obtain ⟨g1, g2, g3, g4, g5⟩ := wr_ok hf (o := o) hb k (by omega)
    rw [wr_succ]
    obtain ⟨r, hr⟩ : ∃ r, wrTo f o bs k = r := ⟨_, rfl⟩
    rw [hr] at h1 h2 h3 g1 g2 g3 g4 g5 ⊢
    unfold wrStep
    rcases h3 with ⟨e0, e1, e2, e3⟩ | ⟨e0, e1⟩
    · rw [if_neg (by rw [e0]; decide)]
      split
      · rename_i h255
        refine ⟨h1, h2, .inl ⟨e0, e1, fun i hi => ?_, fun i hi hi2 => e3 i (by omega) hi2⟩⟩
        by_cases e : i = k
        · subst e; rw [e3 i (Nat.le_refl _) (by omega), h255]
        · exact e2 i (by omega)
      · obtain ⟨p1, p2⟩ := prog_at (f := r.1) g1 e1 (k := o + k) (u := gB bs k) (by omega)
        have hu := gB_lt hb k
        have h255 := e3 k (Nat.le_refl _) (by omega)
        refine ⟨fun j hj => ?_, fun i hi => ?_, ?_⟩
        · rw [p2 j (by omega)]; exact h1 j hj
        · by_cases e : i = k
          · subst e
            rcases p1 with ⟨_, _, q⟩ | ⟨_, _, p, q⟩
            · rw [q, h255, and_255 hu, Nat.or_self]
            · rw [q, h255]; exact and_or_255 hu
          · rw [p2 (o + i) (by omega)]; exact h2 i hi
        · rcases p1 with ⟨q0, q1, q⟩ | ⟨q0, q1, _⟩
          · refine .inl ⟨q0, q1, fun i hi => ?_, fun i hi hi2 => ?_⟩
            · by_cases e : i = k
              · subst e; rw [q, h255, and_255 hu]
              · rw [p2 (o + i) (by omega)]; exact e2 i (by omega)
            · rw [p2 (o + i) (by omega)]; exact e3 i (by omega) hi2
          · exact .inr ⟨q0, q1⟩
    · rw [if_pos (by rw [e0]; decide)]
      exact ⟨h1, h2, .inr ⟨e0, e1⟩⟩
/-- a write to an empty place -/
structure Wrote (f : Fl) (o : Nat) (bs : List Nat) (g : Fl) (e : Int) : Prop where
  ok : g.Ok
  len : g.b.length = f.b.length
  st : g.st = f.st
  er : g.er = f.er
  pr : g.pr ≤ f.pr + 24
  out : ∀ j, (j < o ∨ o + 24 ≤ j) → gB g.b j = gB f.b j
  cov : Cov bs ((g.b.drop o).take 24)
  res : (e = 0 ∧ g.down = false ∧ (g.b.drop o).take 24 = bs) ∨ (e = 9 ∧ g.down = true)
  no : f.left = -1 → e = 0 ∧ g.left = -1
theorem wrote {f : Fl} (hf : f.Ok) (hd : f.down = false) {o : Nat} {bs : List Nat} (hl : bs.length = 24) (hb : ∀ z ∈ bs, z < 256) (hpr : f.pr + 24 < 4611686018427387904) (ho : o + 24 ≤ f.b.length) (he : zerosP ((f.b.drop o).take 24) = 0) : Wrote f o bs (writeP f o bs).1 (writeP f o bs).2 := by
  have hpl : ((f.b.drop o).take 24).length = 24 := by simp; omega
  have he2 := (zeros_iff (fun z hz => hf.bs z (List.mem_of_mem_drop (List.mem_of_mem_take hz)))).1 he
  have he3 : ∀ i, i < 24 → gB f.b (o + i) = 255 := fun i hi => by rw [← gB_part f.b o 24 i hi]; exact he2 i (by omega)
  obtain ⟨h1, h2, h3⟩ := wr_at hf hd hb hpr ho he3 24 (Nat.le_refl _)
  obtain ⟨g1, g2, g3, g4, g5⟩ := wr_ok hf (o := o) hb 24 (by omega)
  have ge := wr_er f o bs 24
  have hwe : writeP f o bs = wrTo f o bs 24 := by unfold writeP; rw [hl]
  rw [hwe]
  have gn := fun h => wr_no (f := f) h hd (o := o) (bs := bs) 24 ho
  obtain ⟨r, hr⟩ : ∃ r, wrTo f o bs 24 = r := ⟨_, rfl⟩
  rw [hr] at h1 h2 h3 g1 g2 g3 g4 g5 ge gn ⊢
  have hql : ((r.1.b.drop o).take 24).length = 24 := by simp; omega
  refine ⟨g1, g3, g5, ge, g2, h1, Cov.of (by omega) fun k hk => ?_, ?_, fun h => ?_⟩
  · rw [gB_part _ _ _ _ (by omega)]; exact h2 k (by omega)
  · rcases h3 with ⟨e0, e1, e2, _⟩ | h
    · exact .inl ⟨e0, e1, gB_ext (by omega) fun k hk => by rw [gB_part _ _ _ _ (by omega)]; exact e2 k (by omega)⟩
    · exact .inr h
  · exact ⟨(gn h).1, (gn h).2.1⟩
/-- an erasure -/
structure Erased (f : Fl) (k : Nat) (g : Fl) (e : Int) : Prop where
  ok : g.Ok
  len : g.b.length = f.b.length
  st : g.st = f.st
  er : g.er ≤ f.er + 1
  pr : g.pr = f.pr
  out : ∀ j, (j < k * 256 ∨ k * 256 + 256 ≤ j) → gB g.b j = gB f.b j
  cov : ∀ i, i < 256 → gB f.b (k * 256 + i) ||| gB g.b (k * 256 + i) = gB g.b (k * 256 + i)
  res : (e = 0 ∧ g.down = false ∧ ∀ i, i < 256 → gB g.b (k * 256 + i) = 255) ∨ (e = 9 ∧ g.down = true)
  no : f.left = -1 → e = 0 ∧ g.left = -1
theorem or_255 {a : Nat} (h : a < 256) : a ||| 255 = 255 := by
  refine Nat.le_antisymm ?_ Nat.right_le_or
  have := Nat.or_lt_two_pow (n := 8) (show a < 2 ^ 8 by omega) (show 255 < 2 ^ 8 by decide)
  omega
theorem orTo_get (p b : List Nat) (o : Nat) : ∀ n, o + n ≤ b.length → (∀ j, (j < o ∨ o + n ≤ j) → gB (orTo p b o n) j = gB b j) ∧ (∀ i, i < n → gB b (o + i) ||| gB (orTo p b o n) (o + i) = gB (orTo p b o n) (o + i))
  | 0, _ => ⟨fun _ _ => rfl, fun i h => absurd h (Nat.not_lt_zero _)⟩
  | n + 1, h => by
    obtain ⟨h1, h2⟩ := orTo_get p b o n (by omega)
    rw [orTo_succ]
    refine ⟨fun j hj => ?_, fun i hi => ?_⟩
    · rw [gB_set _ _ _ _ (by rw [orTo_len]; omega), if_neg (by omega)]; exact h1 j (by omega)
    · rw [gB_set _ _ _ _ (by rw [orTo_len]; omega)]
      by_cases e : i = n
      · subst e; rw [if_pos rfl, h1 (o + i) (by omega), ← Nat.or_assoc, Nat.or_self]
      · rw [if_neg (by omega)]; exact h2 i (by omega)
theorem fill_get (b : List Nat) (o m : Nat) (h : o + m ≤ b.length) (j : Nat) : gB (b.take o ++ List.replicate m 255 ++ b.drop (o + m)) j = if o ≤ j ∧ j < o + m then 255 else gB b j := by
  unfold gB
  have e1 : (b.take o).length = o := by simp; omega
  have e2 : (b.take o ++ List.replicate m 255).length = o + m := by simp; omega
  rw [List.getD_eq_getElem?_getD, List.getD_eq_getElem?_getD]
  by_cases h1 : j < o
  · rw [List.getElem?_append_left (by omega), List.getElem?_append_left (by omega), if_neg (by omega), List.getElem?_take, if_pos h1]
  · by_cases h2 : j < o + m
    · rw [List.getElem?_append_left (by omega), List.getElem?_append_right (by omega), if_pos (by omega), List.getElem?_replicate, if_pos (by omega)]; rfl
    · rw [List.getElem?_append_right (by omega), if_neg (by omega), List.getElem?_drop, e2, show o + m + (j - (o + m)) = j by omega]
theorem erased {f : Fl} (hf : f.Ok) (hd : f.down = false) {k : Nat} (hk : k < f.b.length / 256) (her : f.er + 1 < 4611686018427387904) : Erased f k (flErase f (k : Int)).1 (flErase f (k : Int)).2 := by
  obtain ⟨e1, e2, e3, e4, e5⟩ := erase_okP hf her (k : Int)
  have hin : k * 256 + 256 ≤ f.b.length := by omega
  have hne : flBegins f (k : Int) (f.b.length / 256 : Nat) = 0 := begins_ok hd hk
  have hrw : flErase f (k : Int) = flErase1 f k := by
    unfold flErase
    rw [if_neg (by rw [hne]; decide), Int.toNat_natCast]
  rw [hrw] at e1 e2 e3 e4 e5 ⊢
  have hfill : ∀ j, gB (f.b.take (k * 256) ++ List.replicate 256 255 ++ f.b.drop (k * 256 + 256)) j = if k * 256 ≤ j ∧ j < k * 256 + 256 then 255 else gB f.b j := fill_get f.b (k * 256) 256 hin
  have hor := orTo_get f.picks f.b (k * 256) 256 (by omega)
  refine ⟨e1, e3, e4, e2, e5, ?_, ?_, ?_, fun h => ?_⟩
  · intro j hj
    unfold flErase1
    simp only
    split
    · rw [hfill, if_neg (by omega)]
    · exact hor.1 j hj
  · intro i hi
    unfold flErase1
    simp only
    split
    · rw [hfill, if_pos (by omega)]; exact or_255 (gB_lt hf.bs _)
    · exact hor.2 i hi
  · unfold flErase1
    cases hdn : (flFails { f with er := f.er + 1 }).down with
    | false =>
      refine .inl ⟨rfl, rfl, fun i hi => ?_⟩
      simp only [Bool.not_false, Bool.true_or, if_true]
      rw [hfill, if_pos (by omega)]
    | true => exact .inr ⟨rfl, rfl⟩
  · obtain ⟨n1, n2⟩ := flFails_no (f := { f with er := f.er + 1 }) h
    unfold flErase1
    rw [n2]
    exact ⟨rfl, n1⟩
end Iv
end Go.Proofs.Ythcbcdjkfefnlaa

set_option autoImplicit false
set_option linter.unusedVariables false
namespace Go.Proofs.Ythcbcdjkfefnlaa
open Go.Gv
open Go.RowKit
open Iv
namespace Iv
/-! ### what a flash says -/
abbrev Vals := Nat → Option (Nat × List Nat)
structure Gd (b : List Nat) (y : En) : Prop where
  bk : y.bk < b.length / 256
  sl : y.sl < 10
  good : badP (slotB b y.bk y.sl) = false
  eq : enB b y.bk y.sl = y
structure FI (b : List Nat) (N : Nat) (V : Vals) : Prop where
  lt : ∀ z ∈ b, z < 256
  lm : b.length % 256 = 0
  nb : b.length / 256 ≤ 64
  slo : ∀ bk sl, bk < b.length / 256 → sl < 10 → ∃ key num vs, EnV key num vs ∧ Cov (packP key num vs) (slotB b bk sl)
  num : ∀ y, Gd b y → y.num ≤ N
  uq : ∀ y z, Gd b y → Gd b z → y.key = z.key → y.num = z.num → y.val = z.val
  topN : ∀ k, V k = none → ∀ y, Gd b y → y.key ≠ k
  topS : ∀ k m v, V k = some (m, v) → (∃ y, Gd b y ∧ y.key = k ∧ y.num = m ∧ y.val = v) ∧ ∀ y, Gd b y → y.key = k → y.num ≤ m
def Spare (b : List Nat) (e : Nat) : Prop := ∀ y, Gd b y → y.bk = e → ∃ z, Gd b z ∧ z.bk ≠ e ∧ z.key = y.key ∧ y.num ≤ z.num
theorem FI.mono {b : List Nat} {N N' : Nat} {V : Vals} (h : FI b N V) (hN : N ≤ N') : FI b N' V := ⟨h.lt, h.lm, h.nb, h.slo, fun y hy => Nat.le_trans (h.num y hy) hN, h.uq, h.topN, h.topS⟩
theorem Gd.ok {b : List Nat} {y : En} (h : Gd b y) (hlt : ∀ z ∈ b, z < 256) (hnb : b.length / 256 ≤ 64) : EnOk y := by
  have h1 := h.bk
  have h2 := h.sl
  have := enB_ok hlt (bk := y.bk) (sl := y.sl) (by omega) (by omega) h2 h.good
  rw [h.eq] at this; exact this
theorem slot_eq {b b' : List Nat} {bk sl : Nat} (hl : b'.length = b.length) (h : ∀ i, i < 24 → gB b' (bk * 256 + sl * 24 + i) = gB b (bk * 256 + sl * 24 + i)) : slotB b' bk sl = slotB b bk sl := by
  have hlen : (slotB b' bk sl).length = (slotB b bk sl).length := by simp [slotB, hl]
  refine gB_ext hlen fun k hk => ?_
  have hk24 : k < 24 := by simp [slotB] at hk; omega
  rw [gB_slot _ _ _ hk24, gB_slot _ _ _ hk24]
  exact h k hk24
theorem gd_same {b b' : List Nat} {y : En} (hl : b'.length = b.length) (hs : slotB b' y.bk y.sl = slotB b y.bk y.sl) : Gd b' y ↔ Gd b y := by
  have he : enB b' y.bk y.sl = enB b y.bk y.sl := by unfold enB; rw [hs]
  constructor
  · exact fun h => ⟨by rw [← hl]; exact h.bk, h.sl, by rw [← hs]; exact h.good, by rw [← he]; exact h.eq⟩
  · exact fun h => ⟨by rw [hl]; exact h.bk, h.sl, by rw [hs]; exact h.good, by rw [he]; exact h.eq⟩
theorem gd_uniq {b : List Nat} {y z : En} (hy : Gd b y) (hz : Gd b z) (h1 : y.bk = z.bk) (h2 : y.sl = z.sl) : y = z := by
  rw [← hy.eq, ← hz.eq, h1, h2]
theorem FI.erase {b b' : List Nat} {N : Nat} {V : Vals} (h : FI b N V) {e : Nat} (hs : Spare b e) (he : e < b.length / 256) (hl : b'.length = b.length) (hlt : ∀ z ∈ b', z < 256) (hout : ∀ j, (j < e * 256 ∨ e * 256 + 256 ≤ j) → gB b' j = gB b j) (hcov : ∀ i, i < 256 → gB b (e * 256 + i) ||| gB b' (e * 256 + i) = gB b' (e * 256 + i)) :
    FI b' N V ∧ Spare b' e ∧ (∀ y, Gd b' y → Gd b y) ∧ (∀ y, Gd b y → y.bk ≠ e → Gd b' y) := by
  have hlm := h.lm
  have hsame : ∀ bk sl, sl < 10 → bk ≠ e → slotB b' bk sl = slotB b bk sl := fun bk sl h2 h3 => slot_eq hl fun i hi => hout _ (by omega)
  have hsl : ∀ sl, sl < 10 → Cov (slotB b e sl) (slotB b' e sl) := fun sl h2 => by
    have e1 := slot_len (b := b) (bk := e) (sl := sl) (by omega)
    have e2 := slot_len (b := b') (bk := e) (sl := sl) (by omega)
    refine Cov.of (by omega) fun k hk => ?_
    rw [gB_slot _ _ _ (by omega), gB_slot _ _ _ (by omega), show e * 256 + sl * 24 + k = e * 256 + (sl * 24 + k) by omega]
    exact hcov _ (by omega)
  have hback : ∀ y, Gd b' y → Gd b y := fun y hy => by
    by_cases hy2 : y.bk = e
    · obtain ⟨key, num, vs, hv, hc⟩ := h.slo y.bk y.sl (by rw [← hl]; exact hy.bk) hy.sl
      have h1 := hsl y.sl hy.sl
      rw [← hy2] at h1
      have h2 := cov_good hv (hc.trans h1) (slot_lt hlt _ _) hy.good
      refine (gd_same hl ?_).1 hy
      rw [h2] at h1 ⊢
      exact (h1.antisymm hc).symm
    · exact (gd_same hl (hsame _ _ hy.sl hy2)).1 hy
  have hfor : ∀ y, Gd b y → y.bk ≠ e → Gd b' y := fun y hy h2 => (gd_same hl (hsame _ _ hy.sl h2)).2 hy
  refine ⟨⟨hlt, by rw [hl]; exact hlm, by rw [hl]; exact h.nb, fun bk sl h1 h2 => ?_, fun y hy => h.num y (hback y hy), fun y z hy hz => h.uq y z (hback y hy) (hback z hz), fun k hk y hy => h.topN k hk y (hback y hy), fun k m v hk => ?_⟩, fun y hy h2 => ?_, hback, hfor⟩
  · obtain ⟨key, num, vs, hv, hc⟩ := h.slo bk sl (by rw [← hl]; exact h1) h2
    refine ⟨key, num, vs, hv, ?_⟩
    by_cases e2 : bk = e
    · subst e2; exact hc.trans (hsl sl h2)
    · rw [hsame bk sl h2 e2]; exact hc
  · obtain ⟨⟨y, hy, hy1, hy2, hy3⟩, hmax⟩ := h.topS k m v hk
    refine ⟨?_, fun y hy => hmax y (hback y hy)⟩
    by_cases e2 : y.bk = e
    · obtain ⟨z, hz, hz1, hz2, hz3⟩ := hs y hy e2
      have hz4 := hmax z hz (by omega)
      refine ⟨z, hfor z hz hz1, by omega, by omega, ?_⟩
      rw [← hy3]
      exact h.uq z y hz hy hz2 (by omega)
    · exact ⟨y, hfor y hy e2, hy1, hy2, hy3⟩
  · obtain ⟨z, hz, hz1, hz2, hz3⟩ := hs y (hback y hy) h2
    exact ⟨z, hfor z hz hz1, hz1, hz2, hz3⟩
/-- an entry is written to an empty place -/
structure Wr (b b' : List Nat) (bk sl key num : Nat) (vs : List Nat) : Prop where
  hbk : bk < b.length / 256
  hsl : sl < 10
  em : zerosP (slotB b bk sl) = 0
  v : EnV key num vs
  len : b'.length = b.length
  lt : ∀ z ∈ b', z < 256
  out : ∀ j, (j < bk * 256 + sl * 24 ∨ bk * 256 + sl * 24 + 24 ≤ j) → gB b' j = gB b j
  cov : Cov (packP key num vs) (slotB b' bk sl)
theorem Wr.other {b b' : List Nat} {bk sl key num : Nat} {vs : List Nat} (h : Wr b b' bk sl key num vs) {bk2 sl2 : Nat} (h2 : sl2 < 10) (hne : ¬ (bk2 = bk ∧ sl2 = sl)) : slotB b' bk2 sl2 = slotB b bk2 sl2 := by
  have := h.hsl
  refine slot_eq h.len fun i hi => h.out _ ?_
  rcases Nat.lt_trichotomy bk2 bk with h3 | h3 | h3
  · omega
  · rcases Nat.lt_trichotomy sl2 sl with h4 | h4 | h4
    · omega
    · exact absurd ⟨h3, h4⟩ hne
    · omega
  · omega
theorem Wr.gd {b b' : List Nat} {N : Nat} {V : Vals} {bk sl key num : Nat} {vs : List Nat} (hf : FI b N V) (h : Wr b b' bk sl key num vs) : (∀ y, Gd b y → Gd b' y ∧ ¬ (y.bk = bk ∧ y.sl = sl)) ∧ (∀ y, Gd b' y → Gd b y ∨ (y = ⟨key, num, vs, bk, sl⟩ ∧ slotB b' bk sl = packP key num vs)) ∧ (slotB b' bk sl = packP key num vs → Gd b' ⟨key, num, vs, bk, sl⟩) := by
  have hlm := hf.lm
  have hbk := h.hbk
  have hsl := h.hsl
  have hlen := slot_len (b := b) (bk := bk) (sl := sl) (by omega)
  have hbad := empty_bad hlen (slot_lt hf.lt _ _) h.em
  have heq : slotB b' bk sl = packP key num vs → enB b' bk sl = ⟨key, num, vs, bk, sl⟩ := fun e => by
    unfold enB; rw [e, pack_key h.v, pack_num h.v, pack_val h.v]
  refine ⟨fun y hy => ?_, fun y hy => ?_, fun e => ⟨by rw [h.len]; exact h.hbk, h.hsl, by simp only; rw [e]; exact pack_good h.v, heq e⟩⟩
  · have hne : ¬ (y.bk = bk ∧ y.sl = sl) := fun ⟨e1, e2⟩ => by
      have := hy.good
      rw [e1, e2, hbad] at this; cases this
    exact ⟨(gd_same h.len (h.other hy.sl hne)).2 hy, hne⟩
  · by_cases hne : y.bk = bk ∧ y.sl = sl
    · obtain ⟨e1, e2⟩ := hne
      have hg := hy.good
      rw [e1, e2] at hg
      have := cov_good h.v h.cov (slot_lt h.lt _ _) hg
      refine .inr ⟨?_, this⟩
      have he := hy.eq
      rw [e1, e2, heq this] at he
      exact he.symm
    · exact .inl ((gd_same h.len (h.other hy.sl hne)).1 hy)
theorem Wr.slo {b b' : List Nat} {N : Nat} {V : Vals} {bk sl key num : Nat} {vs : List Nat} (hf : FI b N V) (h : Wr b b' bk sl key num vs) : ∀ bk sl, bk < b'.length / 256 → sl < 10 → ∃ key num vs, EnV key num vs ∧ Cov (packP key num vs) (slotB b' bk sl) := fun bk2 sl2 h1 h2 => by
  by_cases e : bk2 = bk ∧ sl2 = sl
  · obtain ⟨rfl, rfl⟩ := e
    exact ⟨key, num, vs, h.v, h.cov⟩
  · rw [h.other h2 e]
    exact hf.slo bk2 sl2 (by rw [← h.len]; exact h1) h2
/-- a copy of what is there says nothing new -/
theorem Wr.copy {b b' : List Nat} {N : Nat} {V : Vals} {bk sl key num : Nat} {vs : List Nat} (hf : FI b N V) (h : Wr b b' bk sl key num vs) (hV : V key = some (num, vs)) : FI b' N V := by
  obtain ⟨g1, g2, g3⟩ := h.gd hf
  obtain ⟨⟨y0, a1, a2, a3, a4⟩, a5⟩ := hf.topS key num vs hV
  have hy : ∀ y, Gd b' y → ∃ x, Gd b x ∧ x.key = y.key ∧ x.num = y.num ∧ x.val = y.val := fun y hy => by
    rcases g2 y hy with h1 | ⟨rfl, _⟩
    · exact ⟨y, h1, rfl, rfl, rfl⟩
    · exact ⟨y0, a1, a2, a3, a4⟩
  refine ⟨h.lt, by rw [h.len]; exact hf.lm, by rw [h.len]; exact hf.nb, h.slo hf, fun y h1 => ?_, fun y z h1 h2 e1 e2 => ?_, fun k hk y h1 e1 => ?_, fun k m v hk => ?_⟩
  · obtain ⟨x, x1, x2, x3, x4⟩ := hy y h1
    rw [← x3]; exact hf.num x x1
  · obtain ⟨x, x1, x2, x3, x4⟩ := hy y h1
    obtain ⟨u, u1, u2, u3, u4⟩ := hy z h2
    rw [← x4, ← u4]
    exact hf.uq x u x1 u1 (by omega) (by omega)
  · obtain ⟨x, x1, x2, x3, x4⟩ := hy y h1
    exact hf.topN k hk x x1 (by omega)
  · obtain ⟨⟨y, b1, b2, b3, b4⟩, b5⟩ := hf.topS k m v hk
    refine ⟨⟨y, (g1 y b1).1, b2, b3, b4⟩, fun z h1 e1 => ?_⟩
    obtain ⟨x, x1, x2, x3, x4⟩ := hy z h1
    rw [← x3]; exact b5 x x1 (by omega)
abbrev updV (V : Vals) (key num : Nat) (vs : List Nat) : Vals := fun k => if k = key then some (num, vs) else V k
/-- an entry that is written whole -/
theorem Wr.new {b b' : List Nat} {N : Nat} {V : Vals} {bk sl key : Nat} {vs : List Nat} (hf : FI b N V) (h : Wr b b' bk sl key (N + 1) vs) (he : slotB b' bk sl = packP key (N + 1) vs) : FI b' (N + 1) (updV V key (N + 1) vs) := by
  obtain ⟨g1, g2, g3⟩ := h.gd hf
  refine ⟨h.lt, by rw [h.len]; exact hf.lm, by rw [h.len]; exact hf.nb, h.slo hf, fun y h1 => ?_, fun y z h1 h2 e1 e2 => ?_, fun k hk y h1 e1 => ?_, fun k m v hk => ?_⟩
  · rcases g2 y h1 with h1 | ⟨rfl, _⟩
    · have := hf.num y h1; omega
    · exact Nat.le_refl _
  · rcases g2 y h1 with h1 | ⟨rfl, _⟩ <;> rcases g2 z h2 with h2 | ⟨rfl, _⟩
    · exact hf.uq y z h1 h2 e1 e2
    · have := hf.num y h1; simp only at e2; omega
    · have := hf.num z h2; simp only at e2; omega
    · rfl
  · simp only [updV] at hk
    split at hk
    · cases hk
    · rename_i hne
      rcases g2 y h1 with h1 | ⟨rfl, _⟩
      · exact hf.topN k hk y h1 e1
      · exact hne e1.symm
  · simp only [updV] at hk
    split at hk
    · rename_i e
      cases hk
      refine ⟨⟨_, g3 he, e.symm, rfl, rfl⟩, fun y h1 _ => ?_⟩
      rcases g2 y h1 with h1 | ⟨rfl, _⟩
      · have := hf.num y h1; omega
      · exact Nat.le_refl _
    · rename_i hne
      obtain ⟨⟨y, b1, b2, b3, b4⟩, b5⟩ := hf.topS k m v hk
      refine ⟨⟨y, (g1 y b1).1, b2, b3, b4⟩, fun z h1 e1 => ?_⟩
      rcases g2 z h1 with h1 | ⟨rfl, _⟩
      · exact b5 z h1 e1
      · exact absurd e1.symm hne
/-- an entry that is not written whole -/
theorem Wr.torn {b b' : List Nat} {N : Nat} {V : Vals} {bk sl key num : Nat} {vs : List Nat} (hf : FI b N V) (h : Wr b b' bk sl key num vs) (he : slotB b' bk sl ≠ packP key num vs) : FI b' N V := by
  obtain ⟨g1, g2, g3⟩ := h.gd hf
  have hy : ∀ y, Gd b' y → Gd b y := fun y hy => by
    rcases g2 y hy with h1 | ⟨rfl, h2⟩
    · exact h1
    · exact absurd h2 he
  refine ⟨h.lt, by rw [h.len]; exact hf.lm, by rw [h.len]; exact hf.nb, h.slo hf, fun y h1 => hf.num y (hy y h1), fun y z h1 h2 => hf.uq y z (hy y h1) (hy z h2), fun k hk y h1 => hf.topN k hk y (hy y h1), fun k m v hk => ?_⟩
  obtain ⟨⟨y, b1, b2, b3, b4⟩, b5⟩ := hf.topS k m v hk
  exact ⟨⟨y, (g1 y b1).1, b2, b3, b4⟩, fun z h1 => b5 z (hy z h1)⟩
/-! ### scan -/
theorem pget_pput (k : Nat) (x : En) : ∀ P : List En, pget k (pput x P) = if k = x.key then some x else pget k P
  | [] => by simp only [pput, pget]
  | y :: l => by
    unfold pput
    by_cases e : x.key = y.key
    · rw [if_pos e]
      simp only [pget]
      by_cases e2 : k = x.key
      · rw [if_pos e2, if_pos e2]
      · rw [if_neg e2, if_neg e2, if_neg (by omega)]
    · rw [if_neg e]
      simp only [pget]
      rw [pget_pput k x l]
      by_cases e2 : k = y.key
      · rw [if_pos e2, if_neg (by omega), if_pos e2]
      · rw [if_neg e2, if_neg e2]
theorem pput_keys_new {x : En} : ∀ {P : List En}, pget x.key P = none → (pput x P).map En.key = P.map En.key ++ [x.key]
  | [], _ => rfl
  | y :: l, h => by
    unfold pget at h
    unfold pput
    by_cases e : x.key = y.key
    · rw [if_pos e] at h; cases h
    · rw [if_neg e] at h ⊢
      simp [pput_keys_new h]
theorem pget_none {k : Nat} : ∀ {P : List En}, pget k P = none → k ∉ P.map En.key := fun h hm => by
  have := pget_mem hm
  rw [h] at this; cases this
theorem pput_nodup {x : En} {P : List En} (h : (P.map En.key).Nodup) : ((pput x P).map En.key).Nodup := by
  cases e : pget x.key P with
  | some y => rw [pput_keys (by rw [e]; rfl)]; exact h
  | none =>
    rw [pput_keys_new e, List.nodup_append]
    refine ⟨h, by simp, fun a ha c hc e2 => ?_⟩
    simp at hc
    subst hc; subst e2
    exact pget_none e ha
structure ScOk (b : List Nat) (but : Int) (seen : Nat → Nat → Prop) (n0 : Nat) (s : Nat × List En) : Prop where
  nd : (s.2.map En.key).Nodup
  so : ∀ k x, pget k s.2 = some x → Gd b x ∧ seen x.bk x.sl ∧ (x.bk : Int) ≠ but ∧ x.key = k ∧ ∀ y, Gd b y → seen y.bk y.sl → (y.bk : Int) ≠ but → y.key = k → y.num ≤ x.num
  no : ∀ k, pget k s.2 = none → ∀ y, Gd b y → seen y.bk y.sl → (y.bk : Int) ≠ but → y.key ≠ k
  n0 : n0 ≤ s.1
  nu : ∀ y, Gd b y → seen y.bk y.sl → (y.bk : Int) ≠ but → y.num ≤ s.1
theorem ScOk.congr {b : List Nat} {but : Int} {seen seen' : Nat → Nat → Prop} {n0 : Nat} {s : Nat × List En} (h : ScOk b but seen n0 s) (he : ∀ bk sl, sl < 10 → (seen bk sl ↔ seen' bk sl)) : ScOk b but seen' n0 s := by
  refine ⟨h.nd, fun k x hx => ?_, fun k hk y hy h1 => h.no k hk y hy ((he _ _ hy.sl).2 h1), h.n0, fun y hy h1 => h.nu y hy ((he _ _ hy.sl).2 h1)⟩
  obtain ⟨a1, a2, a3, a4, a5⟩ := h.so k x hx
  exact ⟨a1, (he _ _ a1.sl).1 a2, a3, a4, fun y hy h1 => a5 y hy ((he _ _ hy.sl).2 h1)⟩
theorem ScOk.step {b : List Nat} {but : Int} {seen : Nat → Nat → Prop} {n0 : Nat} {s : Nat × List En} (h : ScOk b but seen n0 s) {bk sl : Nat} (hbk : bk < b.length / 256) (hsl : sl < 10) : ScOk b but (fun p q => seen p q ∨ (p = bk ∧ q = sl)) n0 (scStep b but bk s sl) := by
  by_cases hc : badP (slotB b bk sl) = true ∨ (bk : Int) = but
  · rw [scStep_skip hc]
    have hno : ∀ y, Gd b y → (y.bk : Int) ≠ but → ¬ (y.bk = bk ∧ y.sl = sl) := fun y hy h1 ⟨e1, e2⟩ => by
      rcases hc with hc | hc
      · have := hy.good
        rw [e1, e2, hc] at this; cases this
      · rw [e1] at h1; exact h1 hc
    refine ⟨h.nd, fun k x hx => ?_, fun k hk y hy h1 h2 => ?_, h.n0, fun y hy h1 h2 => ?_⟩
    · obtain ⟨a1, a2, a3, a4, a5⟩ := h.so k x hx
      refine ⟨a1, .inl a2, a3, a4, fun y hy h1 h2 => ?_⟩
      rcases h1 with h1 | h1
      · exact a5 y hy h1 h2
      · exact absurd h1 (hno y hy h2)
    · rcases h1 with h1 | h1
      · exact h.no k hk y hy h1 h2
      · exact absurd h1 (hno y hy h2)
    · rcases h1 with h1 | h1
      · exact h.nu y hy h1 h2
      · exact absurd h1 (hno y hy h2)
  · have hb : badP (slotB b bk sl) = false := by
      cases e : badP (slotB b bk sl) with
      | false => rfl
      | true => exact absurd (.inl e) hc
    have hne : (bk : Int) ≠ but := fun e => hc (.inr e)
    rw [scStep_go hb hne]
    obtain ⟨x0, hx0⟩ : ∃ x, enB b bk sl = x := ⟨_, rfl⟩
    have hxb : x0.bk = bk := by rw [← hx0]; rfl
    have hxs : x0.sl = sl := by rw [← hx0]; rfl
    have hg : Gd b x0 := ⟨by rw [hxb]; exact hbk, by rw [hxs]; exact hsl, by rw [hxb, hxs]; exact hb, by rw [hxb, hxs]; exact hx0⟩
    rw [hx0]
    have hyx : ∀ y, Gd b y → (y.bk = bk ∧ y.sl = sl) → y = x0 := fun y hy ⟨e1, e2⟩ => gd_uniq hy hg (by omega) (by omega)
    cases hnw : newer x0 s.2 with
    | true =>
      simp only [if_true]
      have hold : ∀ y, Gd b y → seen y.bk y.sl → (y.bk : Int) ≠ but → y.key = x0.key → y.num ≤ x0.num := fun y hy h1 h2 h3 => by
        unfold newer at hnw
        cases hg2 : pget x0.key s.2 with
        | none => exact absurd h3 (h.no _ hg2 y hy h1 h2)
        | some o =>
          rw [hg2] at hnw
          obtain ⟨a1, a2, a3, a4, a5⟩ := h.so _ o hg2
          have := a5 y hy h1 h2 h3
          have := of_decide_eq_true hnw
          omega
      refine ⟨pput_nodup h.nd, fun k x hx => ?_, fun k hk y hy h1 h2 => ?_, ?_, fun y hy h1 h2 => ?_⟩
      · rw [pget_pput] at hx
        split at hx
        · rename_i e
          cases hx
          refine ⟨hg, .inr ⟨hxb, hxs⟩, by rw [hxb]; exact hne, e.symm, fun y hy h1 h2 h3 => ?_⟩
          rcases h1 with h1 | h1
          · exact hold y hy h1 h2 (by omega)
          · rw [hyx y hy h1]; exact Nat.le_refl _
        · rename_i e
          obtain ⟨a1, a2, a3, a4, a5⟩ := h.so k x hx
          refine ⟨a1, .inl a2, a3, a4, fun y hy h1 h2 h3 => ?_⟩
          rcases h1 with h1 | h1
          · exact a5 y hy h1 h2 h3
          · rw [hyx y hy h1] at h3; exact absurd h3.symm e
      · rw [pget_pput] at hk
        split at hk
        · cases hk
        · rename_i e
          rcases h1 with h1 | h1
          · exact h.no k hk y hy h1 h2
          · rw [hyx y hy h1]; exact fun e2 => e e2.symm
      · exact Nat.le_trans h.n0 (Nat.le_max_left _ _)
      · rcases h1 with h1 | h1
        · exact Nat.le_trans (h.nu y hy h1 h2) (Nat.le_max_left _ _)
        · rw [hyx y hy h1]; exact Nat.le_max_right _ _
    | false =>
      simp only [Bool.false_eq_true, if_false]
      obtain ⟨o, ho⟩ : ∃ o, pget x0.key s.2 = some o := by
        cases e : pget x0.key s.2 with
        | some o => exact ⟨o, rfl⟩
        | none => unfold newer at hnw; rw [e] at hnw; cases hnw
      have hle : x0.num ≤ o.num := by
        unfold newer at hnw; rw [ho] at hnw
        have := of_decide_eq_false hnw
        omega
      refine ⟨h.nd, fun k x hx => ?_, fun k hk y hy h1 h2 => ?_, Nat.le_trans h.n0 (Nat.le_max_left _ _), fun y hy h1 h2 => ?_⟩
      · obtain ⟨a1, a2, a3, a4, a5⟩ := h.so k x hx
        refine ⟨a1, .inl a2, a3, a4, fun y hy h1 h2 h3 => ?_⟩
        rcases h1 with h1 | h1
        · exact a5 y hy h1 h2 h3
        · have e := hyx y hy h1
          subst e
          rw [h3, hx] at ho
          cases ho
          exact hle
      · rcases h1 with h1 | h1
        · exact h.no k hk y hy h1 h2
        · have e := hyx y hy h1
          subst e
          intro e2
          rw [e2, hk] at ho; cases ho
      · rcases h1 with h1 | h1
        · exact Nat.le_trans (h.nu y hy h1 h2) (Nat.le_max_left _ _)
        · rw [hyx y hy h1]; exact Nat.le_max_right _ _
theorem ScOk.blk {b : List Nat} {but : Int} {seen : Nat → Nat → Prop} {n0 : Nat} {s : Nat × List En} (h : ScOk b but seen n0 s) {bk : Nat} (hbk : bk < b.length / 256) : ∀ k, k ≤ 10 → ScOk b but (fun p q => seen p q ∨ (p = bk ∧ q < k)) n0 (scBlkTo b but bk s k)
  | 0, _ => h.congr fun p q _ => ⟨.inl, fun h2 => h2.resolve_right fun h3 => absurd h3.2 (Nat.not_lt_zero _)⟩
  | k + 1, hk => by
    rw [scBlk_succ]
    refine ((h.blk hbk k (by omega)).step hbk (show k < 10 by omega)).congr fun p q _ => ?_
    constructor
    · rintro ((h3 | h3) | h3)
      · exact .inl h3
      · exact .inr ⟨h3.1, by omega⟩
      · exact .inr ⟨h3.1, by omega⟩
    · rintro (h3 | h3)
      · exact .inl (.inl h3)
      · by_cases e : q = k
        · exact .inr ⟨h3.1, e⟩
        · exact .inl (.inr ⟨h3.1, by omega⟩)
theorem ScOk.all (b : List Nat) (but : Int) (n0 : Nat) : ∀ k, k ≤ b.length / 256 → ScOk b but (fun p _ => p < k) n0 (scTo b but n0 k)
  | 0, _ => ⟨List.nodup_nil, (fun k x hx => by cases hx), fun k _ y _ h1 => absurd h1 (Nat.not_lt_zero _), Nat.le_refl _, fun y _ h1 => absurd h1 (Nat.not_lt_zero _)⟩
  | k + 1, hk => by
    rw [scTo_succ]
    refine ((ScOk.all b but n0 k (by omega)).blk (show k < b.length / 256 by omega) 10 (Nat.le_refl _)).congr fun p q hq => ?_
    constructor
    · rintro (h | h)
      · omega
      · omega
    · intro h
      by_cases e : p = k
      · exact .inr ⟨e, hq⟩
      · exact .inl (by omega)
theorem scan_is (b : List Nat) (but : Int) (n0 : Nat) : ScOk b but (fun p _ => p < b.length / 256) n0 (scanP b but n0) := ScOk.all b but n0 _ (Nat.le_refl _)
theorem spareB_iff {b : List Nat} {e : Nat} (he : e < b.length / 256) : spareB b e = true → Spare b e := fun h y hy hye => by
  have hs := scan_is b (e : Int) 0
  unfold spareB spareP at h
  rw [List.all_eq_true] at h
  have h1 := h y.sl (List.mem_range.2 hy.sl)
  unfold coversAt at h1
  have hg := hy.good
  rw [hye] at hg
  have he2 := hy.eq
  rw [hye] at he2
  rw [hg, Bool.false_or, he2] at h1
  have h2 : newer y (scanP b e 0).2 = false := by
    cases e2 : newer y (scanP b e 0).2 with
    | false => rfl
    | true => rw [e2] at h1; cases h1
  unfold newer at h2
  cases e2 : pget y.key (scanP b e 0).2 with
  | none => rw [e2] at h2; cases h2
  | some o =>
    rw [e2] at h2
    obtain ⟨a1, a2, a3, a4, a5⟩ := hs.so _ o e2
    have := of_decide_eq_false h2
    exact ⟨o, a1, fun e3 => a3 (by rw [e3]), a4, by omega⟩
theorem spareB_of {b : List Nat} {e : Nat} (he : e < b.length / 256) (h : Spare b e) : spareB b e = true := by
  have hs := scan_is b (e : Int) 0
  unfold spareB spareP
  rw [List.all_eq_true]
  intro sl hsl
  have hsl := List.mem_range.1 hsl
  unfold coversAt
  cases hb : badP (slotB b e sl) with
  | true => rfl
  | false =>
    obtain ⟨z, hz, z1, z2, z3⟩ := h (enB b e sl) ⟨he, hsl, hb, rfl⟩ rfl
    have : newer (enB b e sl) (scanP b e 0).2 = false := by
      unfold newer
      cases e2 : pget (enB b e sl).key (scanP b e 0).2 with
      | none => exact absurd z2 (hs.no _ e2 z hz hz.bk (by omega))
      | some o =>
        obtain ⟨a1, a2, a3, a4, a5⟩ := hs.so _ o e2
        have := a5 z hz hz.bk (by omega) z2
        exact decide_eq_false (by omega)
    rw [this]; rfl
end Iv
end Go.Proofs.Ythcbcdjkfefnlaa

set_option autoImplicit false
set_option linter.unusedVariables false
namespace Go.Proofs.Ythcbcdjkfefnlaa
open Go.Gv
open Go.RowKit
open Iv
namespace Iv
structure SI (b : List Nat) (P : List En) (num fb : Nat) (V : Vals) : Prop where
  fi : FI b num V
  nd : (P.map En.key).Nodup
  so : ∀ k x, pget k P = some x → Gd b x ∧ x.key = k ∧ V k = some (x.num, x.val)
  no : ∀ k, pget k P = none → V k = none
  hfb : fb < b.length / 256
  em : ∀ i, i < 256 → gB b (fb * 256 + i) = 255
theorem em_slot {b : List Nat} (hlt : ∀ z ∈ b, z < 256) {fb sl c : Nat} (hc : c ≤ sl) (h : ∀ i, c * 24 ≤ i → i < 256 → gB b (fb * 256 + i) = 255) (hsl : sl < 10) : zerosP (slotB b fb sl) = 0 := by
  refine (zeros_iff (slot_lt hlt fb sl)).2 fun k hk => ?_
  have h24 : k < 24 := by simp [slotB] at hk; omega
  rw [gB_slot _ _ _ h24, show fb * 256 + sl * 24 + k = fb * 256 + (sl * 24 + k) by omega]
  exact h _ (by omega) (by omega)
theorem em_no {b : List Nat} (hlt : ∀ z ∈ b, z < 256) {fb : Nat} (h : ∀ i, i < 256 → gB b (fb * 256 + i) = 255) {y : En} (hy : Gd b y) : y.bk ≠ fb := fun e => by
  have h1 := hy.bk
  have h2 := hy.sl
  have h0 := em_slot hlt (fb := fb) (Nat.zero_le y.sl) (fun i _ hi => h i hi) h2
  have := empty_bad (slot_len (b := b) (bk := fb) (sl := y.sl) (by omega)) (slot_lt hlt _ _) h0
  have h3 := hy.good
  rw [e, this] at h3; cases h3
theorem em_spare {b : List Nat} (hlt : ∀ z ∈ b, z < 256) {fb : Nat} (h : ∀ i, i < 256 → gB b (fb * 256 + i) = 255) : Spare b fb := fun y hy e => absurd e (em_no hlt h hy)
theorem em_iff {b : List Nat} (hlt : ∀ z ∈ b, z < 256) {bk : Nat} (hbk : bk < b.length / 256) : EmptyBk b bk ↔ ∀ i, i < 256 → gB b (bk * 256 + i) = 255 := by
  unfold EmptyBk
  rw [zeros_iff (fun z hz => hlt z (List.mem_of_mem_drop (List.mem_of_mem_take hz)))]
  have hl : ((b.drop (bk * 256)).take 256).length = 256 := by simp; omega
  rw [hl]
  constructor
  · exact fun h i hi => by rw [← gB_part b (bk * 256) 256 i hi]; exact h i hi
  · exact fun h i hi => by rw [gB_part b (bk * 256) 256 i hi]; exact h i hi
theorem wr_of {f g : Fl} {e : Int} {bk sl key num : Nat} {vs : List Nat} (hbk : bk < f.b.length / 256) (hsl : sl < 10) (hem : zerosP (slotB f.b bk sl) = 0) (hv : EnV key num vs) (h : Wrote f (bk * 256 + sl * 24) (packP key num vs) g e) : Wr f.b g.b bk sl key num vs :=
  ⟨hbk, hsl, hem, hv, h.len, h.ok.bs, h.out, h.cov⟩
/-! ### the walk of clean -/
structure MI (f0 : Fl) (P0 : List En) (num fb v : Nat) (V : Vals) (ks : List Nat) (i : Nat) (s : (Fl × List En) × Nat × Int) : Prop where
  ok : s.1.1.Ok
  len : s.1.1.b.length = f0.b.length
  st : s.1.1.st = f0.st
  er : s.1.1.er = f0.er
  pr : s.1.1.pr ≤ f0.pr + 24 * i
  fi : FI s.1.1.b num V
  keys : s.1.2.map En.key = P0.map En.key
  so : ∀ k x, pget k s.1.2 = some x → Gd s.1.1.b x ∧ x.key = k ∧ V k = some (x.num, x.val)
  sp : ∀ y, Gd s.1.1.b y → y.bk = fb → ∃ z, Gd s.1.1.b z ∧ z.bk = v ∧ z.key = y.key ∧ z.num = y.num
  res : (s.2.2 = 0 ∧ s.1.1.down = false ∧ s.2.1 + cntE s.1.2 v = cntE P0 v ∧ (∀ i, s.2.1 * 24 ≤ i → i < 256 → gB s.1.1.b (fb * 256 + i) = 255) ∧ ∀ k ∈ ks.take i, ∀ x, pget k s.1.2 = some x → x.bk ≠ v) ∨ (s.2.2 = 9 ∧ s.1.1.down = true)
  no : f0.left = -1 → s.2.2 = 0 ∧ s.1.1.left = -1
theorem mem_take_succ {ks : List Nat} {i k : Nat} (hk : ks[i]? = some k) {q : Nat} (h : q ∈ ks.take (i + 1)) : q ∈ ks.take i ∨ q = k := by
  rw [take_at hk] at h
  rcases List.mem_append.1 h with h | h
  · exact .inl h
  · exact .inr (List.mem_singleton.1 h)
theorem MI.step {f0 : Fl} {P0 : List En} {num fb v : Nat} {V : Vals} {ks : List Nat} {i : Nat} {s : (Fl × List En) × Nat × Int} (h : MI f0 P0 num fb v V ks i s) (hpr : f0.pr + 24 * i + 24 < 4611686018427387904) (hfb : fb < f0.b.length / 256) (hv : v ≠ fb) (hc : cntE P0 v < 10) {k : Nat} (hk : ks[i]? = some k) : MI f0 P0 num fb v V ks (i + 1) (mvStep fb v s k) := by
  have hp := h.pr
  have stay : ((s.2.2 = 0 ∧ ∀ x, pget k s.1.2 = some x → x.bk ≠ v) ∨ s.2.2 = 9) → MI f0 P0 num fb v V ks (i + 1) s := fun hx => by
    refine ⟨h.ok, h.len, h.st, h.er, by omega, h.fi, h.keys, h.so, h.sp, ?_, h.no⟩
    rcases h.res with ⟨r1, r2, r3, r4, r5⟩ | r
    · refine .inl ⟨r1, r2, r3, r4, fun q hq x hx2 => ?_⟩
      rcases mem_take_succ hk hq with hq | rfl
      · exact r5 q hq x hx2
      · rcases hx with hx | hx
        · exact hx.2 x hx2
        · rw [r1] at hx; cases hx
    · exact .inr r
  unfold mvStep
  rcases h.res with ⟨r1, r2, r3, r4, r5⟩ | ⟨r1, r2⟩
  · rw [if_neg (by rw [r1]; decide)]
    cases hg : pget k s.1.2 with
    | none => exact stay (.inl ⟨r1, fun x hx => by rw [hg] at hx; cases hx⟩)
    | some x =>
      simp only
      by_cases hxv : x.bk = v
      · rw [if_neg (by rw [hxv]; simp)]
        obtain ⟨a1, a2, a3⟩ := h.so k x hg
        have hxe := a1.ok h.fi.lt h.fi.nb
        have hxg : pget x.key s.1.2 = some x := by rw [a2]; exact hg
        have hcp := cnt_put (z := ⟨x.key, x.num, x.val, fb, s.2.1⟩) hxv (show fb ≠ v from fun e => hv e.symm) hxg
        have hsl : s.2.1 < 9 := by omega
        have hlm := h.fi.lm
        have hlen := h.len
        have hem := em_slot h.fi.lt (fb := fb) (Nat.le_refl s.2.1) r4 (by omega)
        have hplt := pack_lt (num := x.num) (show x.key < 65536 by have := hxe.key; omega) hxe.val hxe.len
        have hw := wrote h.ok r2 (o := fb * 256 + s.2.1 * 24) (pack_len (key := x.key) (num := x.num) hxe.len) hplt (by omega) (by omega) hem
        have hwr := wr_of (by omega) (by omega) hem hxe.v hw
        obtain ⟨g1, g2, g3⟩ := hwr.gd h.fi
        obtain ⟨r, hr⟩ : ∃ r, writeP s.1.1 (fb * 256 + s.2.1 * 24) (packP x.key x.num x.val) = r := ⟨_, rfl⟩
        rw [hr] at hw hwr g1 g2 g3 ⊢
        have hfi := hwr.copy h.fi (by rw [a2]; exact a3)
        have hpr2 := hw.pr
        have hsp2 : ∀ y, Gd r.1.b y → y.bk = fb → ∃ z, Gd r.1.b z ∧ z.bk = v ∧ z.key = y.key ∧ z.num = y.num := fun y hy hyb => by
          rcases g2 y hy with h1 | ⟨rfl, _⟩
          · obtain ⟨z, z1, z2⟩ := h.sp y h1 hyb
            exact ⟨z, (g1 z z1).1, z2⟩
          · exact ⟨x, (g1 x a1).1, hxv, rfl, rfl⟩
        by_cases he : r.2 = 0
        · rw [if_neg (by rw [he]; simp)]
          have hres : r.1.down = false ∧ slotB r.1.b fb s.2.1 = packP x.key x.num x.val := by
            rcases hw.res with q | q
            · exact q.2
            · rw [he] at q; exact absurd q.1 (by decide)
          have hgx := g3 hres.2
          refine ⟨hw.ok, by rw [← h.len]; exact hw.len, by rw [← h.st]; exact hw.st, by rw [← h.er]; exact hw.er, by simp only; omega, hfi, ?_, fun q x2 hx2 => ?_, hsp2, .inl ⟨rfl, hres.1, by simp only; omega, fun j h1 h2 => ?_, fun q hq x2 hx2 => ?_⟩, fun h0 => ⟨rfl, (hw.no (h.no h0).2).2⟩⟩
          · simp only
            rw [pput_keys (by simp only; rw [hxg]; rfl)]; exact h.keys
          · simp only at hx2
            rw [pget_pput] at hx2
            simp only at hx2
            split at hx2
            · rename_i e
              cases hx2
              exact ⟨hgx, e.symm, by rw [e, a2]; exact a3⟩
            · obtain ⟨b1, b2, b3⟩ := h.so q x2 hx2
              exact ⟨(g1 x2 b1).1, b2, b3⟩
          · simp only at h1
            have := hw.out (fb * 256 + j) (by omega)
            simp only
            rw [this]
            exact r4 j (by omega) h2
          · simp only at hx2
            rw [pget_pput] at hx2
            simp only at hx2
            split at hx2
            · cases hx2
              exact fun e => hv e.symm
            · rename_i e
              rcases mem_take_succ hk hq with hq | rfl
              · exact r5 q hq x2 hx2
              · exact absurd a2.symm e
        · rw [if_pos he]
          have hres : r.2 = 9 ∧ r.1.down = true := by
            rcases hw.res with q | q
            · exact absurd q.1 he
            · exact q
          exact ⟨hw.ok, by rw [← h.len]; exact hw.len, by rw [← h.st]; exact hw.st, by rw [← h.er]; exact hw.er, by simp only; omega, hfi, h.keys, fun q x2 hx2 => by
            obtain ⟨b1, b2, b3⟩ := h.so q x2 hx2
            exact ⟨(g1 x2 b1).1, b2, b3⟩, hsp2, .inr hres, fun h0 => absurd (hw.no (h.no h0).2).1 he⟩
      · rw [if_pos hxv]
        exact stay (.inl ⟨r1, fun x2 hx2 => by rw [hg] at hx2; cases hx2; exact hxv⟩)
  · rw [if_pos (by rw [r1]; decide)]
    exact stay (.inr r1)
theorem MI.all {f0 : Fl} {P0 : List En} {num fb v : Nat} {V : Vals} {ks : List Nat} (h : MI f0 P0 num fb v V ks 0 ((f0, P0), 0, 0)) (hpr : f0.pr + 24 * ks.length + 24 < 4611686018427387904) (hfb : fb < f0.b.length / 256) (hv : v ≠ fb) (hc : cntE P0 v < 10) : ∀ i, i ≤ ks.length → MI f0 P0 num fb v V ks i (mvTo fb v ks f0 P0 i)
  | 0, _ => h
  | i + 1, hi => by
    obtain ⟨k, hk⟩ := get_some (show i < ks.length by omega)
    rw [mv_succ hk]
    exact (h.all hpr hfb hv hc i (by omega)).step (by omega) hfb hv hc hk
def sumN (g : Nat → Nat) : Nat → Nat
  | 0 => 0
  | n + 1 => sumN g n + g n
theorem sumN_cons (x : En) (P : List En) : ∀ n, sumN (cntE (x :: P)) n = sumN (cntE P) n + if x.bk < n then 1 else 0
  | 0 => by simp [sumN]
  | n + 1 => by
    simp only [sumN]
    rw [sumN_cons x P n]
    simp only [cntE, List.countP_cons]
    by_cases e : x.bk = n
    · simp [e]; omega
    · by_cases e2 : x.bk < n
      · simp [e, e2, show x.bk < n + 1 by omega]; omega
      · simp [e, e2, show ¬ x.bk < n + 1 by omega]
theorem sumN_len {n : Nat} : ∀ {P : List En}, (∀ x ∈ P, x.bk < n) → sumN (cntE P) n = P.length
  | [], _ => by
    have : ∀ n, sumN (cntE []) n = 0 := fun n => by
      induction n with
      | zero => rfl
      | succ n ih => simp only [sumN, ih]; rfl
    rw [this]; rfl
  | x :: P, h => by
    rw [sumN_cons, sumN_len fun y hy => h y (List.mem_cons_of_mem _ hy), if_pos (h x List.mem_cons_self)]; rfl
theorem sumN_ge {g : Nat → Nat} {c fb : Nat} : ∀ n, (∀ i, i < n → i ≠ fb → c ≤ g i) → c * n ≤ sumN g n + if fb < n then c else 0
  | 0, _ => by simp
  | n + 1, h => by
    have ih := sumN_ge (g := g) (c := c) (fb := fb) n fun i hi hne => h i (by omega) hne
    simp only [sumN]
    rw [Nat.mul_succ]
    by_cases e : n = fb
    · subst e
      rw [if_neg (Nat.lt_irrefl _)] at ih
      rw [if_pos (Nat.lt_succ_self _)]
      omega
    · have := h n (Nat.lt_succ_self _) e
      by_cases e2 : fb < n
      · rw [if_pos e2] at ih; rw [if_pos (by omega)]; omega
      · rw [if_neg e2] at ih; rw [if_neg (by omega)]; omega
theorem pget_of_mem : ∀ {P : List En} {x : En}, (P.map En.key).Nodup → x ∈ P → pget x.key P = some x
  | [], x, _, h => by cases h
  | y :: l, x, hn, h => by
    simp only [List.map_cons, List.nodup_cons] at hn
    unfold pget
    rcases List.mem_cons.1 h with rfl | h
    · rw [if_pos rfl]
    · rw [if_neg (fun e => hn.1 (by rw [← e]; exact List.mem_map_of_mem h))]
      exact pget_of_mem hn.2 h
theorem keysP_mem' {P : List En} {k : Nat} (h : k ∈ P.map En.key) : k ∈ keysP P := (srt_perm _).mem_iff.2 h
structure CleanIs (f : Fl) (P : List En) (num : Nat) (V : Vals) (e : Int) (f' : Fl) (P' : List En) (fb' : Nat) : Prop where
  ok : f'.Ok
  len : f'.b.length = f.b.length
  st : f'.st = f.st
  er : f'.er ≤ f.er + 1
  pr : f'.pr ≤ f.pr + 24 * P.length
  keys : P'.map En.key = P.map En.key
  res : (e = 0 ∧ f'.down = false ∧ SI f'.b P' num fb' V ∧ ¬ NoRoom f'.b fb') ∨ (e = 9 ∧ f'.down = true ∧ FI f'.b num V ∧ ∃ q, q < f.b.length / 256 ∧ Spare f'.b q)
  no : f.left = -1 → e = 0 ∧ f'.left = -1
theorem clean_is {f f' : Fl} {P P' : List En} {num fb fb' : Nat} {V : Vals} {e : Int} (hf : f.Ok) (hd : f.down = false) (hs : SI f.b P num fb V) (hcap : P.length ≤ 10 * (f.b.length / 256 - 2)) (hpr : f.pr + 24 * P.length + 24 < 4611686018427387904) (her : f.er + 1 < 4611686018427387904) (hc : CleanOut f P fb e f' P' fb') : CleanIs f P num V e f' P' fb' := by
  obtain ⟨v, hv1, hv2, hv3, hc⟩ := hc
  have hlo := hf.lo
  have hkl := keysP_len P
  have hbk : ∀ x ∈ P, Gd f.b x := fun x hx => (hs.so _ x (pget_of_mem hs.nd hx)).1
  have h10 : cntE P v < 10 := by
    have h1 := sumN_len (n := f.b.length / 256) fun x hx => (hbk x hx).bk
    have h2 := sumN_ge (g := cntE P) (c := cntE P v) (fb := fb) (f.b.length / 256) hv3
    rw [if_pos hs.hfb, h1] at h2
    apply Decidable.byContradiction
    intro hn
    have h3 : 10 * (f.b.length / 256 - 1) ≤ cntE P v * (f.b.length / 256 - 1) := Nat.mul_le_mul_right _ (by omega)
    rw [Nat.mul_sub, Nat.mul_one] at h3
    rw [Nat.mul_sub_one] at h3
    omega
  rcases hc with ⟨h, _⟩ | ⟨_, hc⟩
  · omega
  have hM0 : MI f P num fb v V (keysP P) 0 ((f, P), 0, 0) := ⟨hf, rfl, rfl, rfl, Nat.le_add_right _ _, hs.fi, rfl, hs.so, fun y hy e => absurd e (em_no hs.fi.lt hs.em hy), .inl ⟨rfl, hd, by simp, fun i _ hi => hs.em i hi, fun k hk => by simp at hk⟩, fun h => ⟨rfl, h⟩⟩
  have hM := hM0.all (by omega) hs.hfb hv2 h10 (keysP P).length (Nat.le_refl _)
  obtain ⟨s, hsE⟩ : ∃ s, mvTo fb v (keysP P) f P (keysP P).length = s := ⟨_, rfl⟩
  rw [hsE] at hM hc
  have hlen := hM.len
  have hMpr := hM.pr
  rcases hc with ⟨hne, rfl, rfl, rfl, rfl⟩ | ⟨h0, rfl, rfl, rfl, hfb'⟩
  · rcases hM.res with ⟨r1, _⟩ | ⟨r1, r2⟩
    · exact absurd r1 hne
    · exact ⟨hM.ok, hM.len, hM.st, by rw [hM.er]; exact Nat.le_succ _, by omega, hM.keys, .inr ⟨r1, r2, hM.fi, fb', hs.hfb, fun y hy hyb => by
        obtain ⟨z, z1, z2, z3, z4⟩ := hM.sp y hy hyb
        exact ⟨z, z1, by omega, z3, by omega⟩⟩, fun h => absurd (hM.no h).1 hne⟩
  · obtain ⟨r1, r2, r3, r4, r5⟩ := (hM.res.resolve_right fun h => by rw [h0] at h; exact absurd h.1 (by decide))
    have hMer := hM.er
    have hE := erased hM.ok r2 (k := v) (by omega) (by omega)
    have hnov : ∀ k x, pget k s.1.2 = some x → x.bk ≠ v := fun k x hx => by
      refine r5 k ?_ x hx
      rw [List.take_length]
      refine keysP_mem' ?_
      rw [← hM.keys]
      apply Decidable.byContradiction
      intro hn
      obtain ⟨a1, a2, a3⟩ := hM.so k x hx
      have hmem : ∀ {Q : List En}, pget k Q = some x → k ∈ Q.map En.key := fun {Q} => by
        induction Q with
        | nil => intro h; cases h
        | cons y l ih =>
          intro h
          unfold pget at h
          split at h
          · rename_i e; rw [e]; simp
          · exact List.mem_cons_of_mem _ (ih h)
      exact hn (hmem hx)
    have hgone : ∀ k, pget k s.1.2 = none → V k = none := fun k hk => by
      have h1 := pget_none hk
      rw [hM.keys] at h1
      cases e : pget k P with
      | none => exact hs.no k e
      | some x =>
        have := (hs.so k x e).2.1
        refine absurd ?_ h1
        have hmem : ∀ {Q : List En}, pget k Q = some x → k ∈ Q.map En.key := fun {Q} => by
          induction Q with
          | nil => intro h; cases h
          | cons y l ih =>
            intro h
            unfold pget at h
            split at h
            · rename_i e; rw [e]; simp
            · exact List.mem_cons_of_mem _ (ih h)
        exact hmem e
    have hspare : Spare s.1.1.b v := fun y hy hyb => by
      cases e : pget y.key s.1.2 with
      | none => exact absurd rfl (hM.fi.topN _ (hgone _ e) y hy)
      | some x =>
        obtain ⟨a1, a2, a3⟩ := hM.so _ x e
        exact ⟨x, a1, hnov _ x e, a2, (hM.fi.topS _ _ _ a3).2 y hy rfl⟩
    obtain ⟨i1, i2, i3, i4⟩ := hM.fi.erase hspare (by omega) hE.len hE.ok.bs hE.out hE.cov
    refine ⟨hE.ok, by rw [← hM.len]; exact hE.len, by rw [← hM.st]; exact hE.st, by rw [← hM.er]; exact hE.er, by rw [hE.pr]; omega, hM.keys, ?_, fun h => hE.no (hM.no h).2⟩
    rcases hE.res with ⟨q0, q1, q2⟩ | ⟨q0, q1⟩
    · rw [if_neg (by rw [q0]; simp)] at hfb'
      subst hfb'
      refine .inl ⟨q0, q1, ⟨i1, by rw [hM.keys]; exact hs.nd, fun k x hx => ?_, hgone, by rw [hE.len]; omega, q2⟩, fun hno => ?_⟩
      · obtain ⟨a1, a2, a3⟩ := hM.so k x hx
        exact ⟨i4 x a1 (hnov k x hx), a2, a3⟩
      · refine hno fb s.2.1 (by rw [hE.len, hM.len]; exact hs.hfb) (by omega) (by omega) ?_
        rw [slot_eq (b := s.1.1.b) hE.len fun i hi => hE.out _ (by omega)]
        exact em_slot hM.fi.lt (Nat.le_refl _) r4 (by omega)
    · exact .inr ⟨q0, q1, i1, v, by omega, i2⟩
/-! ### Put -/
structure WroteIs (f : Fl) (P : List En) (num fb id : Nat) (V : Vals) (key : Nat) (vs : List Nat) (e : Int) (f' : Fl) (P' : List En) (num' id' : Nat) : Prop where
  ok : f'.Ok
  len : f'.b.length = f.b.length
  st : f'.st = f.st
  er : f'.er = f.er
  pr : f'.pr ≤ f.pr + 24
  res : (e = 0 ∧ f'.down = false ∧ num' = num + 1 ∧ id' = id ∧ SI f'.b P' (num + 1) fb (updV V key (num + 1) vs) ∧ (pget key P = none → P'.length = P.length + 1) ∧ (∀ x, pget key P = some x → P'.length = P.length)) ∨
    (e = 9 ∧ f'.down = true ∧ id' = 0 ∧ P' = P ∧ num' = num ∧ ∃ V', (V' = V ∨ V' = updV V key (num + 1) vs) ∧ FI f'.b (num + 1) V' ∧ Spare f'.b fb)
  no : f.left = -1 → e = 0 ∧ f'.left = -1
theorem write_is {f f' : Fl} {P P' : List En} {num fb id num' id' key : Nat} {V : Vals} {vs : List Nat} {e : Int} (hf : f.Ok) (hd : f.down = false) (hs : SI f.b P num fb V) (hpr : f.pr + 24 < 4611686018427387904) (hv : EnV key (num + 1) vs) (hw : WriteOut f P num fb id key vs e f' P' num' id') : WroteIs f P num fb id V key vs e f' P' num' id' := by
  obtain ⟨bk, sl, hroom, rfl, rfl, hw⟩ := hw
  have hbk := hroom.hbk
  have hsl := hroom.hsl
  have hne : bk ≠ fb := fun e => hroom.ne (by rw [e])
  have hlm := hs.fi.lm
  have hplt := pack_lt (num := num + 1) (show key < 65536 by have := hv.key; omega) hv.val hv.len
  have h1 := wrote hf hd (o := bk * 256 + sl * 24) (pack_len (key := key) (num := num + 1) hv.len) hplt hpr (by omega) hroom.em
  have hwr := wr_of hbk hsl hroom.em hv h1
  obtain ⟨g1, g2, g3⟩ := hwr.gd hs.fi
  obtain ⟨r, hr⟩ : ∃ r, writeP f (bk * 256 + sl * 24) (packP key (num + 1) vs) = r := ⟨_, rfl⟩
  rw [hr] at h1 hwr g1 g2 g3 hw ⊢
  have hem : ∀ i, i < 256 → gB r.1.b (fb * 256 + i) = 255 := fun i hi => by
    rw [h1.out _ (by omega)]; exact hs.em i hi
  refine ⟨h1.ok, h1.len, h1.st, h1.er, h1.pr, ?_, h1.no⟩
  rcases h1.res with ⟨q0, q1, q2⟩ | ⟨q0, q1⟩
  · have hw := hw.resolve_left fun h => h.1 q0
    obtain ⟨_, rfl, rfl, rfl⟩ := hw
    refine .inl ⟨q0, q1, rfl, rfl, ⟨hwr.new hs.fi q2, pput_nodup hs.nd, fun k x hx => ?_, fun k hk => ?_, by rw [h1.len]; exact hs.hfb, hem⟩, fun hn => ?_, fun x hx => ?_⟩
    · rw [pget_pput] at hx
      simp only [updV]
      simp only at hx
      split at hx
      · rename_i e
        cases hx
        exact ⟨g3 q2, e.symm, by rw [if_pos e]⟩
      · rename_i e
        obtain ⟨a1, a2, a3⟩ := hs.so k x hx
        exact ⟨(g1 x a1).1, a2, by rw [if_neg e]; exact a3⟩
    · rw [pget_pput] at hk
      simp only at hk
      simp only [updV]
      split at hk
      · cases hk
      · rename_i e
        rw [if_neg e]; exact hs.no k hk
    · have := congrArg List.length (pput_keys_new (x := ⟨key, num + 1, vs, bk, sl⟩) hn)
      simpa using this
    · have := congrArg List.length (pput_keys (x := ⟨key, num + 1, vs, bk, sl⟩) (P := P) (by simp only; rw [hx]; rfl))
      simpa using this
  · have hw := hw.resolve_right fun h => by rw [q0] at h; exact absurd h.1 (by decide)
    obtain ⟨_, rfl, rfl, rfl⟩ := hw
    refine .inr ⟨q0, q1, by rw [q0]; rfl, rfl, rfl, ?_⟩
    by_cases e : slotB r.1.b bk sl = packP key (num' + 1) vs
    · exact ⟨_, .inr rfl, hwr.new hs.fi e, em_spare h1.ok.bs hem⟩
    · exact ⟨V, .inl rfl, (hwr.torn hs.fi e).mono (Nat.le_succ _), em_spare h1.ok.bs hem⟩
structure PutIs (f : Fl) (P : List En) (num fb id : Nat) (V : Vals) (key : Nat) (vs : List Nat) (e : Int) (f' : Fl) (P' : List En) (num' fb' id' : Nat) : Prop where
  ok : f'.Ok
  len : f'.b.length = f.b.length
  st : f'.st = f.st
  er : f'.er ≤ f.er + 1
  pr : f'.pr ≤ f.pr + 24 * P.length + 24
  res : (e = 0 ∧ f'.down = false ∧ num' = num + 1 ∧ id' = id ∧ SI f'.b P' (num + 1) fb' (updV V key (num + 1) vs) ∧ (pget key P = none → P'.length = P.length + 1) ∧ (∀ x, pget key P = some x → P'.length = P.length)) ∨
    (e = 9 ∧ f'.down = true ∧ ∃ V', (V' = V ∨ V' = updV V key (num + 1) vs) ∧ FI f'.b (num + 1) V' ∧ ∃ q, q < f.b.length / 256 ∧ Spare f'.b q)
  no : f.left = -1 → e = 0 ∧ f'.left = -1
theorem pget_keys {P Q : List En} (h : P.map En.key = Q.map En.key) (k : Nat) : (pget k P).isSome = (pget k Q).isSome := by
  induction P generalizing Q with
  | nil => cases Q with
    | nil => rfl
    | cons y l => simp at h
  | cons x P ih => cases Q with
    | nil => simp at h
    | cons y l =>
      simp only [List.map_cons, List.cons.injEq] at h
      unfold pget
      rw [h.1]
      split
      · rfl
      · exact ih h.2
theorem put_is {f f' : Fl} {P P' : List En} {num fb id num' fb' id' key : Nat} {V : Vals} {vs : List Nat} {e : Int} (hf : f.Ok) (hd : f.down = false) (hs : SI f.b P num fb V) (hcap : P.length ≤ 10 * (f.b.length / 256 - 2)) (hpr : f.pr + 24 * P.length + 48 < 4611686018427387904) (her : f.er + 1 < 4611686018427387904) (hv : EnV key (num + 1) vs) (hp : PutGo f P num fb id key vs e f' P' num' fb' id') : PutIs f P num fb id V key vs e f' P' num' fb' id' := by
  rcases hp with ⟨hw, rfl⟩ | ⟨_, e1, f1, P1, fb1, hc, hp⟩
  · have h := write_is hf hd hs (by omega) hv hw
    have := h.pr
    refine ⟨h.ok, h.len, h.st, by rw [h.er]; exact Nat.le_succ _, by omega, ?_, h.no⟩
    rcases h.res with r | ⟨r1, r2, _, _, _, V', r3, r4, r5⟩
    · exact .inl r
    · exact .inr ⟨r1, r2, V', r3, r4, fb', hs.hfb, r5⟩
  · have h := clean_is hf hd hs hcap (by omega) her hc
    have hpr1 := h.pr
    have her1 := h.er
    have hlen1 : P1.length = P.length := by simpa using congrArg List.length h.keys
    rcases hp with ⟨hne, rfl, rfl, rfl, rfl, rfl, rfl⟩ | ⟨h0, hno, _⟩ | ⟨h0, hw, rfl⟩
    · refine ⟨h.ok, h.len, h.st, h.er, by omega, ?_, h.no⟩
      rcases h.res with ⟨r, _⟩ | ⟨r1, r2, r3, r4⟩
      · exact absurd r hne
      · exact .inr ⟨r1, r2, V, .inl rfl, r3.mono (Nat.le_succ _), r4⟩
    · rcases h.res with ⟨_, _, _, r⟩ | ⟨r, _⟩
      · exact absurd hno r
      · rw [h0] at r; exact absurd r (by decide)
    · obtain ⟨_, d1, s1, _⟩ := h.res.resolve_right fun r => by rw [h0] at r; exact absurd r.1 (by decide)
      have h2 := write_is h.ok d1 s1 (by omega) hv hw
      have hpr2 := h2.pr
      refine ⟨h2.ok, by rw [h2.len, h.len], by rw [h2.st, h.st], by rw [h2.er]; exact h.er, by omega, ?_, fun hl => h2.no (h.no hl).2⟩
      have hgk := pget_keys h.keys key
      rcases h2.res with ⟨r1, r2, r3, r4, r5, r6, r7⟩ | ⟨r1, r2, _, _, _, V', r3, r4, r5⟩
      · refine .inl ⟨r1, r2, r3, r4, r5, fun hn => ?_, fun x hx => ?_⟩
        · rw [← hlen1]
          refine r6 ?_
          rw [hn] at hgk
          exact Option.isNone_iff_eq_none.1 (by rw [← Option.not_isSome, hgk]; rfl)
        · rw [← hlen1]
          rw [hx] at hgk
          obtain ⟨y, hy⟩ := Option.isSome_iff_exists.1 hgk
          exact r7 y hy
      · exact .inr ⟨r1, r2, V', r3, r4, fb', by rw [← h.len]; exact s1.hfb, r5⟩
/-! ### Open -/
theorem FI.num' {b : List Nat} {N M : Nat} {V : Vals} (h : FI b N V) (hM : ∀ y, Gd b y → y.num ≤ M) : FI b M V := ⟨h.lt, h.lm, h.nb, h.slo, hM, h.uq, h.topN, h.topS⟩
theorem FI.numB {b : List Nat} {N : Nat} {V : Vals} (h : FI b N V) : NumB b N := fun bk sl h1 h2 h3 => h.num (enB b bk sl) ⟨h1, h2, h3, rfl⟩
structure OpenIs (f : Fl) (N : Nat) (V : Vals) (f2 : Fl) (P : List En) (num bk : Nat) : Prop where
  si : SI f2.b P num bk V
  num : num ≤ N
  down : f2.down = false
  st : f2.st = f.st + 1
  er : f2.er ≤ f.er + 1
  pr : f2.pr = f.pr
  no : f.left = -1 → f2.left = -1
theorem si_of_scan {b : List Nat} {N : Nat} {V : Vals} {num num0 bk : Nat} {P : List En} (hfi : FI b N V) (hsc : (num, P) = scanP b (-1) num0) (hn0 : num0 ≤ N) (hbk : bk < b.length / 256) (hem : ∀ i, i < 256 → gB b (bk * 256 + i) = 255) : SI b P num bk V ∧ num ≤ N := by
  have hs := scan_is b (-1) num0
  have hle := scan_num hfi.numB (but := -1) hn0
  rw [← hsc] at hs hle
  have hnu := hs.nu
  simp only at hnu hle
  refine ⟨⟨hfi.num' fun y hy => hnu y hy hy.bk (by omega), hs.nd, fun k x hx => ?_, fun k hk => ?_, hbk, hem⟩, hle⟩
  · obtain ⟨a1, a2, a3, a4, a5⟩ := hs.so k x hx
    refine ⟨a1, a4, ?_⟩
    cases e : V k with
    | none => exact absurd a4 (hfi.topN k e x a1)
    | some p =>
      obtain ⟨m, v⟩ := p
      obtain ⟨⟨y, y1, y2, y3, y4⟩, y5⟩ := hfi.topS k m v e
      have h1 := y5 x a1 a4
      have h2 := a5 y y1 y1.bk (by omega) y2
      have h3 := hfi.uq x y a1 y1 (by omega) (by omega)
      rw [h3, y4, show m = x.num by omega]
  · cases e : V k with
    | none => rfl
    | some p =>
      obtain ⟨m, v⟩ := p
      obtain ⟨⟨y, y1, y2, y3, y4⟩, y5⟩ := hfi.topS k m v e
      exact absurd y2 (hs.no k hk y y1 y1.bk (by omega))
theorem open_is {f f2 : Fl} {N num num0 bk : Nat} {V : Vals} {P : List En} (hf : f.Ok) (hst : f.st + 1 < 4611686018427387904) (her : f.er + 1 < 4611686018427387904) (hd : f.down = false) (hfi : FI f.b N V) (hop : OpenedAt { f with st := f.st + 1 } f2 bk) (hn0 : ∀ N, NumB f.b N → num0 ≤ N) (hsc : (num, P) = scanP f2.b (-1) num0) : OpenIs f N V f2 P num bk := by
  obtain ⟨hbk, hop⟩ := hop
  have hn := hn0 N hfi.numB
  rcases hop with ⟨rfl, hem⟩ | ⟨hne, hsp, hE⟩
  · obtain ⟨h1, h2⟩ := si_of_scan hfi hsc hn hbk ((em_iff hfi.lt hbk).1 hem)
    exact ⟨h1, h2, hd, rfl, Nat.le_succ _, rfl, fun h => h⟩
  · have hf1 : ({ f with st := f.st + 1 } : Fl).Ok := ⟨hf.bs, hf.ps, hf.len, hf.lo, hf.hi, hf.pl, hf.pr, hf.er, hst, hf.l0, hf.l1⟩
    have hEr := erased hf1 hd hbk her
    rw [hE] at hEr
    simp only at hEr
    obtain ⟨i1, i2, i3, i4⟩ := hfi.erase (spareB_iff hbk hsp) hbk hEr.len hEr.ok.bs hEr.out hEr.cov
    have hr := hEr.res.resolve_right fun h => absurd h.1 (by decide)
    have hlen := hEr.len
    simp only at hlen hbk
    obtain ⟨h1, h2⟩ := si_of_scan i1 hsc hn (by rw [hlen]; exact hbk) hr.2.2
    exact ⟨h1, h2, hr.2.1, hEr.st, hEr.er, hEr.pr, fun h => (hEr.no h).2⟩
theorem open_torn {f : Fl} {N bk : Nat} {V : Vals} (hf : f.Ok) (hst : f.st + 1 < 4611686018427387904) (her : f.er + 1 < 4611686018427387904) (hd : f.down = false) (hfi : FI f.b N V) (hbk : bk < f.b.length / 256) (hsp : spareB f.b bk = true) : Erased { f with st := f.st + 1 } bk (flErase { f with st := f.st + 1 } (bk : Int)).1 (flErase { f with st := f.st + 1 } (bk : Int)).2 ∧ FI (flErase { f with st := f.st + 1 } (bk : Int)).1.b N V ∧ Spare (flErase { f with st := f.st + 1 } (bk : Int)).1.b bk := by
  have hf1 : ({ f with st := f.st + 1 } : Fl).Ok := ⟨hf.bs, hf.ps, hf.len, hf.lo, hf.hi, hf.pl, hf.pr, hf.er, hst, hf.l0, hf.l1⟩
  have hEr := erased hf1 hd hbk her
  obtain ⟨i1, i2, _⟩ := hfi.erase (spareB_iff hbk hsp) hbk hEr.len hEr.ok.bs hEr.out hEr.cov
  exact ⟨hEr, i1, i2⟩
/-- a new flash -/
theorem fi_new {b : List Nat} (hb : ∀ z ∈ b, z = 255) (hlm : b.length % 256 = 0) (hnb : b.length / 256 ≤ 64) : FI b 0 (fun _ => none) := by
  have hlt : ∀ z ∈ b, z < 256 := fun z hz => by rw [hb z hz]; decide
  have h255 : ∀ k, k < b.length → gB b k = 255 := fun k hk => hb _ (gB_mem hk)
  have hno : ∀ y, ¬ Gd b y := fun y hy => by
    have h1 := hy.bk
    exact em_no hlt (fb := y.bk) (fun i hi => h255 _ (by omega)) hy rfl
  refine ⟨hlt, hlm, hnb, fun bk sl h1 h2 => ?_, fun y hy => absurd hy (hno y), fun y z hy => absurd hy (hno y), fun k _ y hy => absurd hy (hno y), fun k m v h => by cases h⟩
  have hv : EnV 0 0 [] := ⟨by decide, by decide, by decide, fun z hz => by cases hz⟩
  refine ⟨0, 0, [], hv, cov_255 ?_ (pack_lt (by decide) hv.val hv.len) (slot_lt hlt _ _) ?_⟩
  · rw [pack_len hv.len, slot_len (by omega)]
  · exact em_slot hlt (Nat.zero_le _) (fun i _ hi => h255 _ (by omega)) h2
end Iv
end Go.Proofs.Ythcbcdjkfefnlaa
