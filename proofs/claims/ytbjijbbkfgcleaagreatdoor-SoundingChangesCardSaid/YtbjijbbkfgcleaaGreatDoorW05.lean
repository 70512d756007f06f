import Derived.Test.YtbjijbbkfgcleaaGreatDoorW04
import Derived.Test.YtbjijbbkfgcleaaGreatDoorW01
import Derived.Test.YtbjijbbkfgcleaaGreatDoorRows
import Derived.LaidMore
import Derived.MakeChecks
import Derived.Stop.Joined
import Derived.LaidHandle
import Derived.Test.YtbjijbbkfgcleaaGreatDoorW00
/- A part of the proof: walks of the program. -/
set_option autoImplicit false
set_option linter.unusedSimpArgs false
set_option linter.unusedVariables false
set_option linter.unnecessarySimpa false
namespace Go.Proofs.YtbjijbbkfgcleaaGreatDoor
open Go.Gv
open Go.RowKit
open Go.Sn
open Go.Deep Go.ChangeShapes Go.WideShapes
namespace Sx
section
variable {H : Type} {enc : TypeId × Value → H} {W : World} {base : Nat} {sp : Nat → Bool} {held : Bool}
theorem openFeet {n : Nat} {u v : Value} {x : DataW H × List MemPlace} (h : DataW.trod enc Tryz.prog W base sp held n 51 [u, v] = some x) (hw : ∀ b ∈ x.1.weights Tryz.prog 51, b ≤ reachBytes) : ∃ p q : Int, [u, v] = [.int .i64 p, .int .i64 q] := by
  obtain ⟨k, hl, hf⟩ := fld Tryz.underlying51 h hw
  obtain ⟨y0, t0, _⟩ := hf 0 _ 1 rfl (by kernel_rfl)
  obtain ⟨y1, t1, _⟩ := hf 1 _ 1 rfl (by kernel_rfl)
  obtain ⟨p, rfl⟩ := leafI Tryz.underlying3 (show DataW.trod enc Tryz.prog W base sp held k 3 [u] = some y0 from t0)
  obtain ⟨q, rfl⟩ := leafI Tryz.underlying3 (show DataW.trod enc Tryz.prog W base sp held k 3 [v] = some y1 from t1)
  exact ⟨p, q, rfl⟩
theorem openDv {n : Nat} {cs : List Value} {x : DataW H × List MemPlace} (h : DataW.trod enc Tryz.prog W base sp held n 49 cs = some x) (hw : ∀ b ∈ x.1.weights Tryz.prog 49, b ≤ reachBytes) : ∃ g : Dv, cs = g.cells ∧ g.name.size ≤ 140737488355328 := by
  obtain ⟨k, hl, hf⟩ := fld Tryz.underlying49 h hw
  rw [show Tryz.prog.cellsOf 49 = 3 by kernel_rfl] at hl
  obtain ⟨u0, u1, u2, rfl⟩ := len3 hl
  obtain ⟨y0, t0, w0⟩ := hf 0 _ 1 rfl (by kernel_rfl)
  replace t0 : DataW.trod enc Tryz.prog W base sp held k 9 [u0] = some y0 := t0
  obtain ⟨z0, rfl, b0⟩ := leafS Tryz.underlying9 t0 w0
  obtain ⟨y1, t1, w1⟩ := hf 1 _ 1 rfl (by kernel_rfl)
  replace t1 : DataW.trod enc Tryz.prog W base sp held k 3 [u1] = some y1 := t1
  obtain ⟨z1, rfl⟩ := leafI Tryz.underlying3 t1
  obtain ⟨y2, t2, w2⟩ := hf 2 _ 1 rfl (by kernel_rfl)
  replace t2 : DataW.trod enc Tryz.prog W base sp held k 3 [u2] = some y2 := t2
  obtain ⟨z2, rfl⟩ := leafI Tryz.underlying3 t2
  exact ⟨⟨z0, z1, z2⟩, rfl, b0⟩
theorem openRk {n : Nat} {cs : List Value} {x : DataW H × List MemPlace} (h : DataW.trod enc Tryz.prog W base sp held n 53 cs = some x) (hw : ∀ b ∈ x.1.weights Tryz.prog 53, b ≤ reachBytes) : ∃ g : Rk, cs = g.cells ∧ g.name.size ≤ 140737488355328 := by
  obtain ⟨k, hl, hf⟩ := fld Tryz.underlying53 h hw
  rw [show Tryz.prog.cellsOf 53 = 6 by kernel_rfl] at hl
  obtain ⟨u0, u1, u2, u3, u4, u5, rfl⟩ := len6 hl
  obtain ⟨y0, t0, w0⟩ := hf 0 _ 1 rfl (by kernel_rfl)
  replace t0 : DataW.trod enc Tryz.prog W base sp held k 9 [u0] = some y0 := t0
  obtain ⟨z0, rfl, b0⟩ := leafS Tryz.underlying9 t0 w0
  obtain ⟨y1, t1, w1⟩ := hf 1 _ 1 rfl (by kernel_rfl)
  replace t1 : DataW.trod enc Tryz.prog W base sp held k 3 [u1] = some y1 := t1
  obtain ⟨z1, rfl⟩ := leafI Tryz.underlying3 t1
  obtain ⟨y2, t2, w2⟩ := hf 2 _ 2 rfl (by kernel_rfl)
  replace t2 : DataW.trod enc Tryz.prog W base sp held k 51 [u2, u3] = some y2 := t2
  obtain ⟨p2, q2, e2⟩ := openFeet t2 w2
  simp only [List.cons.injEq, and_true] at e2
  obtain ⟨rfl, rfl⟩ := e2
  obtain ⟨y3, t3, w3⟩ := hf 3 _ 1 rfl (by kernel_rfl)
  replace t3 : DataW.trod enc Tryz.prog W base sp held k 3 [u4] = some y3 := t3
  obtain ⟨z3, rfl⟩ := leafI Tryz.underlying3 t3
  obtain ⟨y4, t4, w4⟩ := hf 4 _ 1 rfl (by kernel_rfl)
  replace t4 : DataW.trod enc Tryz.prog W base sp held k 3 [u5] = some y4 := t4
  obtain ⟨z4, rfl⟩ := leafI Tryz.underlying3 t4
  exact ⟨⟨z0, z1, p2, q2, z3, z4⟩, rfl, b0⟩
theorem openPt {n : Nat} {cs : List Value} {x : DataW H × List MemPlace} (h : DataW.trod enc Tryz.prog W base sp held n 104 cs = some x) (hw : ∀ b ∈ x.1.weights Tryz.prog 104, b ≤ reachBytes) : ∃ g : Pt, cs = g.cells ∧ True := by
  obtain ⟨k, hl, hf⟩ := fld Tryz.underlying104 h hw
  rw [show Tryz.prog.cellsOf 104 = 4 by kernel_rfl] at hl
  obtain ⟨u0, u1, u2, u3, rfl⟩ := len4 hl
  obtain ⟨y0, t0, w0⟩ := hf 0 _ 1 rfl (by kernel_rfl)
  replace t0 : DataW.trod enc Tryz.prog W base sp held k 3 [u0] = some y0 := t0
  obtain ⟨z0, rfl⟩ := leafI Tryz.underlying3 t0
  obtain ⟨y1, t1, w1⟩ := hf 1 _ 1 rfl (by kernel_rfl)
  replace t1 : DataW.trod enc Tryz.prog W base sp held k 3 [u1] = some y1 := t1
  obtain ⟨z1, rfl⟩ := leafI Tryz.underlying3 t1
  obtain ⟨y2, t2, w2⟩ := hf 2 _ 1 rfl (by kernel_rfl)
  replace t2 : DataW.trod enc Tryz.prog W base sp held k 3 [u2] = some y2 := t2
  obtain ⟨z2, rfl⟩ := leafI Tryz.underlying3 t2
  obtain ⟨y3, t3, w3⟩ := hf 3 _ 1 rfl (by kernel_rfl)
  replace t3 : DataW.trod enc Tryz.prog W base sp held k 3 [u3] = some y3 := t3
  obtain ⟨z3, rfl⟩ := leafI Tryz.underlying3 t3
  exact ⟨⟨z0, z1, z2, z3⟩, rfl, trivial⟩
theorem openPts {n : Nat} {cs : List Value} {x : DataW H × List MemPlace} (h : DataW.trod enc Tryz.prog W base sp held n 54 cs = some x) (hw : ∀ b ∈ x.1.weights Tryz.prog 54, b ≤ reachBytes) :
    ∃ (a : Option Addr) (gs : List Pt) (cp : Nat), cs = [.slice a gs.length cp] ∧ OldSl W [] a gs.length 4 (gs.flatMap Pt.cells) ∧ gs.length ≤ 140737488355328 ∧ gs.length ≤ cp ∧ ∀ g ∈ gs, (fun _ => True) g :=
  openSlW Pt.cells (fun _ => True) 4 54 104 32 (fun _ => rfl) (by decide) Tryz.underlying54 (by kernel_rfl) (by kernel_rfl) (by decide) (fun n cs x h hw => openPt h hw) h hw
def StG (W : World) (g : St) : Prop := g.name.size ≤ 140737488355328 ∧ OldSl W [] g.pa g.ps.length 4 (g.ps.flatMap Pt.cells) ∧ g.ps.length ≤ 140737488355328 ∧ g.ps.length ≤ g.pc
theorem openSt {n : Nat} {cs : List Value} {x : DataW H × List MemPlace} (h : DataW.trod enc Tryz.prog W base sp held n 56 cs = some x) (hw : ∀ b ∈ x.1.weights Tryz.prog 56, b ≤ reachBytes) : ∃ g : St, cs = g.cells ∧ StG W g := by
  obtain ⟨k, hl, hf⟩ := fld Tryz.underlying56 h hw
  rw [show Tryz.prog.cellsOf 56 = 5 by kernel_rfl] at hl
  obtain ⟨u0, u1, u2, u3, u4, rfl⟩ := len5 hl
  obtain ⟨y0, t0, w0⟩ := hf 0 _ 1 rfl (by kernel_rfl)
  replace t0 : DataW.trod enc Tryz.prog W base sp held k 9 [u0] = some y0 := t0
  obtain ⟨z0, rfl, b0⟩ := leafS Tryz.underlying9 t0 w0
  obtain ⟨y1, t1, w1⟩ := hf 1 _ 1 rfl (by kernel_rfl)
  replace t1 : DataW.trod enc Tryz.prog W base sp held k 3 [u1] = some y1 := t1
  obtain ⟨z1, rfl⟩ := leafI Tryz.underlying3 t1
  obtain ⟨y2, t2, w2⟩ := hf 2 _ 2 rfl (by kernel_rfl)
  replace t2 : DataW.trod enc Tryz.prog W base sp held k 51 [u2, u3] = some y2 := t2
  obtain ⟨p2, q2, e2⟩ := openFeet t2 w2
  simp only [List.cons.injEq, and_true] at e2
  obtain ⟨rfl, rfl⟩ := e2
  obtain ⟨y3, t3, w3⟩ := hf 3 _ 1 rfl (by kernel_rfl)
  replace t3 : DataW.trod enc Tryz.prog W base sp held k 54 [u4] = some y3 := t3
  obtain ⟨a3, l3, c3, e3, s3, m3, o3, g3⟩ := openPts t3 w3
  simp only [List.cons.injEq, and_true] at e3
  subst e3
  exact ⟨⟨z0, z1, p2, q2, a3, c3, l3⟩, rfl, b0, s3, m3, o3⟩
theorem openCp {n : Nat} {cs : List Value} {x : DataW H × List MemPlace} (h : DataW.trod enc Tryz.prog W base sp held n 58 cs = some x) (hw : ∀ b ∈ x.1.weights Tryz.prog 58, b ≤ reachBytes) : ∃ g : Cp, cs = g.cells ∧ g.name.size ≤ 140737488355328 := by
  obtain ⟨k, hl, hf⟩ := fld Tryz.underlying58 h hw
  rw [show Tryz.prog.cellsOf 58 = 6 by kernel_rfl] at hl
  obtain ⟨u0, u1, u2, u3, u4, u5, rfl⟩ := len6 hl
  obtain ⟨y0, t0, w0⟩ := hf 0 _ 1 rfl (by kernel_rfl)
  replace t0 : DataW.trod enc Tryz.prog W base sp held k 9 [u0] = some y0 := t0
  obtain ⟨z0, rfl, b0⟩ := leafS Tryz.underlying9 t0 w0
  obtain ⟨y1, t1, w1⟩ := hf 1 _ 1 rfl (by kernel_rfl)
  replace t1 : DataW.trod enc Tryz.prog W base sp held k 3 [u1] = some y1 := t1
  obtain ⟨z1, rfl⟩ := leafI Tryz.underlying3 t1
  obtain ⟨y2, t2, w2⟩ := hf 2 _ 1 rfl (by kernel_rfl)
  replace t2 : DataW.trod enc Tryz.prog W base sp held k 3 [u2] = some y2 := t2
  obtain ⟨z2, rfl⟩ := leafI Tryz.underlying3 t2
  obtain ⟨y3, t3, w3⟩ := hf 3 _ 1 rfl (by kernel_rfl)
  replace t3 : DataW.trod enc Tryz.prog W base sp held k 3 [u3] = some y3 := t3
  obtain ⟨z3, rfl⟩ := leafI Tryz.underlying3 t3
  obtain ⟨y4, t4, w4⟩ := hf 4 _ 1 rfl (by kernel_rfl)
  replace t4 : DataW.trod enc Tryz.prog W base sp held k 3 [u4] = some y4 := t4
  obtain ⟨z4, rfl⟩ := leafI Tryz.underlying3 t4
  obtain ⟨y5, t5, w5⟩ := hf 5 _ 1 rfl (by kernel_rfl)
  replace t5 : DataW.trod enc Tryz.prog W base sp held k 4 [u5] = some y5 := t5
  obtain ⟨z5, rfl⟩ := leafB Tryz.underlying4 t5
  exact ⟨⟨z0, z1, z2, z3, z4, z5⟩, rfl, b0⟩
theorem openDvs {n : Nat} {cs : List Value} {x : DataW H × List MemPlace} (h : DataW.trod enc Tryz.prog W base sp held n 22 cs = some x) (hw : ∀ b ∈ x.1.weights Tryz.prog 22, b ≤ reachBytes) :
    ∃ (a : Option Addr) (gs : List Dv) (cp : Nat), cs = [.slice a gs.length cp] ∧ OldSl W [] a gs.length 3 (gs.flatMap Dv.cells) ∧ gs.length ≤ 140737488355328 ∧ gs.length ≤ cp ∧ ∀ g ∈ gs, (fun g : Dv => g.name.size ≤ 140737488355328) g :=
  openSlW Dv.cells (fun g : Dv => g.name.size ≤ 140737488355328) 3 22 49 32 (fun _ => rfl) (by decide) Tryz.underlying22 (by kernel_rfl) (by kernel_rfl) (by decide) (fun n cs x h hw => openDv h hw) h hw
theorem openRks {n : Nat} {cs : List Value} {x : DataW H × List MemPlace} (h : DataW.trod enc Tryz.prog W base sp held n 23 cs = some x) (hw : ∀ b ∈ x.1.weights Tryz.prog 23, b ≤ reachBytes) :
    ∃ (a : Option Addr) (gs : List Rk) (cp : Nat), cs = [.slice a gs.length cp] ∧ OldSl W [] a gs.length 6 (gs.flatMap Rk.cells) ∧ gs.length ≤ 140737488355328 ∧ gs.length ≤ cp ∧ ∀ g ∈ gs, (fun g : Rk => g.name.size ≤ 140737488355328) g :=
  openSlW Rk.cells (fun g : Rk => g.name.size ≤ 140737488355328) 6 23 53 56 (fun _ => rfl) (by decide) Tryz.underlying23 (by kernel_rfl) (by kernel_rfl) (by decide) (fun n cs x h hw => openRk h hw) h hw
theorem openSts {n : Nat} {cs : List Value} {x : DataW H × List MemPlace} (h : DataW.trod enc Tryz.prog W base sp held n 24 cs = some x) (hw : ∀ b ∈ x.1.weights Tryz.prog 24, b ≤ reachBytes) :
    ∃ (a : Option Addr) (gs : List St) (cp : Nat), cs = [.slice a gs.length cp] ∧ OldSl W [] a gs.length 5 (gs.flatMap St.cells) ∧ gs.length ≤ 140737488355328 ∧ gs.length ≤ cp ∧ ∀ g ∈ gs, (StG W) g :=
  openSlW St.cells (StG W) 5 24 56 64 (fun _ => rfl) (by decide) Tryz.underlying24 (by kernel_rfl) (by kernel_rfl) (by decide) (fun n cs x h hw => openSt h hw) h hw
theorem openCps {n : Nat} {cs : List Value} {x : DataW H × List MemPlace} (h : DataW.trod enc Tryz.prog W base sp held n 25 cs = some x) (hw : ∀ b ∈ x.1.weights Tryz.prog 25, b ≤ reachBytes) :
    ∃ (a : Option Addr) (gs : List Cp) (cp : Nat), cs = [.slice a gs.length cp] ∧ OldSl W [] a gs.length 6 (gs.flatMap Cp.cells) ∧ gs.length ≤ 140737488355328 ∧ gs.length ≤ cp ∧ ∀ g ∈ gs, (fun g : Cp => g.name.size ≤ 140737488355328) g :=
  openSlW Cp.cells (fun g : Cp => g.name.size ≤ 140737488355328) 6 25 58 56 (fun _ => rfl) (by decide) Tryz.underlying25 (by kernel_rfl) (by kernel_rfl) (by decide) (fun n cs x h hw => openCp h hw) h hw
theorem openOrg {n : Nat} {cs : List Value} {x : DataW H × List MemPlace} (h : DataW.trod enc Tryz.prog W base sp held n 27 cs = some x) (hw : ∀ b ∈ x.1.weights Tryz.prog 27, b ≤ reachBytes) : ∃ g : Org, cs = g.cells ∧ OrgIn g W [] ∧ OrgLe g := by
  obtain ⟨k, hl, hf⟩ := fld Tryz.underlying27 h hw
  rw [show Tryz.prog.cellsOf 27 = 4 by kernel_rfl] at hl
  obtain ⟨u0, u1, u2, u3, rfl⟩ := len4 hl
  obtain ⟨y0, t0, w0⟩ := hf 0 _ 1 rfl (by kernel_rfl)
  replace t0 : DataW.trod enc Tryz.prog W base sp held k 22 [u0] = some y0 := t0
  obtain ⟨a0, l0, c0, e0, s0, m0, o0, g0⟩ := openDvs t0 w0
  simp only [List.cons.injEq, and_true] at e0
  subst e0
  obtain ⟨y1, t1, w1⟩ := hf 1 _ 1 rfl (by kernel_rfl)
  replace t1 : DataW.trod enc Tryz.prog W base sp held k 23 [u1] = some y1 := t1
  obtain ⟨a1, l1, c1, e1, s1, m1, o1, g1⟩ := openRks t1 w1
  simp only [List.cons.injEq, and_true] at e1
  subst e1
  obtain ⟨y2, t2, w2⟩ := hf 2 _ 1 rfl (by kernel_rfl)
  replace t2 : DataW.trod enc Tryz.prog W base sp held k 24 [u2] = some y2 := t2
  obtain ⟨a2, l2, c2, e2, s2, m2, o2, g2⟩ := openSts t2 w2
  simp only [List.cons.injEq, and_true] at e2
  subst e2
  obtain ⟨y3, t3, w3⟩ := hf 3 _ 1 rfl (by kernel_rfl)
  replace t3 : DataW.trod enc Tryz.prog W base sp held k 25 [u3] = some y3 := t3
  obtain ⟨a3, l3, c3, e3, s3, m3, o3, g3⟩ := openCps t3 w3
  simp only [List.cons.injEq, and_true] at e3
  subst e3
  exact ⟨⟨a0, c0, l0, a1, c1, l1, a2, c2, l2, a3, c3, l3⟩, rfl, ⟨s0, s1, s2, s3, fun x hx => (g2 x hx).2.1⟩, ⟨m0, m1, m2, m3, fun x hx => (g2 x hx).2.2.1, fun x hx => (g2 x hx).2.2.2, g0, g1, fun x hx => (g2 x hx).1, g3⟩⟩
theorem openIntsW {n : Nat} {cs : List Value} {x : DataW H × List MemPlace} (h : DataW.trod enc Tryz.prog W base sp held n 29 cs = some x) (hw : ∀ b ∈ x.1.weights Tryz.prog 29, b ≤ reachBytes) :
    ∃ (a : Option Addr) (gs : List Int) (cp : Nat), cs = [.slice a gs.length cp] ∧ OldSl W [] a gs.length 1 (gs.flatMap (fun z : Int => [intV z])) ∧ gs.length ≤ 140737488355328 ∧ gs.length ≤ cp ∧ ∀ g ∈ gs, (fun _ => True) g :=
  openSlW (fun z : Int => [intV z]) (fun _ => True) 1 29 3 8 (fun _ => rfl) (by decide) Tryz.underlying29 (by kernel_rfl) (by kernel_rfl) (by decide) (fun n cs x h hw => by
    obtain ⟨z, e, _⟩ := DataW.trod_int Tryz.underlying3 h
    exact ⟨z, e, trivial⟩) h hw
def KRG (W : World) (g : KR) : Prop := OldSl W [] g.a g.ks.length 1 (g.ks.map intV) ∧ g.ks.length ≤ 140737488355328 ∧ g.ks.length ≤ g.c
theorem openKRs {n : Nat} {cs : List Value} {x : DataW H × List MemPlace} (h : DataW.trod enc Tryz.prog W base sp held n 28 cs = some x) (hw : ∀ b ∈ x.1.weights Tryz.prog 28, b ≤ reachBytes) :
    ∃ (a : Option Addr) (gs : List KR) (cp : Nat), cs = [.slice a gs.length cp] ∧ OldSl W [] a gs.length 1 (gs.flatMap (fun g : KR => [g.cell])) ∧ gs.length ≤ 140737488355328 ∧ gs.length ≤ cp ∧ ∀ g ∈ gs, (KRG W) g :=
  openSlW (fun g : KR => [g.cell]) (KRG W) 1 28 29 24 (fun _ => rfl) (by decide) Tryz.underlying28 (by kernel_rfl) (by kernel_rfl) (by decide) (fun n cs x h hw => by
    obtain ⟨a, gs, cp, rfl, h1, h2, h3, _⟩ := openIntsW h hw
    rw [flat_one intV] at h1
    exact ⟨⟨a, cp, gs⟩, rfl, h1, h2, h3⟩) h hw
theorem openHd {n : Nat} {cs : List Value} {x : DataW H × List MemPlace} (h : DataW.trod enc Tryz.prog W base sp held n 31 cs = some x) (hw : ∀ b ∈ x.1.weights Tryz.prog 31, b ≤ reachBytes) : ∃ g : Hd, cs = g.cells ∧ HdIn g W [] ∧ HdLe g := by
  obtain ⟨k, hl, hf⟩ := fld Tryz.underlying31 h hw
  rw [show Tryz.prog.cellsOf 31 = 3 by kernel_rfl] at hl
  obtain ⟨u0, u1, u2, rfl⟩ := len3 hl
  obtain ⟨y0, t0, w0⟩ := hf 0 _ 1 rfl (by kernel_rfl)
  replace t0 : DataW.trod enc Tryz.prog W base sp held k 28 [u0] = some y0 := t0
  obtain ⟨a0, l0, c0, e0, s0, m0, o0, g0⟩ := openKRs t0 w0
  simp only [List.cons.injEq, and_true] at e0
  subst e0
  obtain ⟨y1, t1, w1⟩ := hf 1 _ 1 rfl (by kernel_rfl)
  replace t1 : DataW.trod enc Tryz.prog W base sp held k 29 [u1] = some y1 := t1
  obtain ⟨a1, l1, c1, e1, s1, m1, o1, g1⟩ := openIntsW t1 w1
  simp only [List.cons.injEq, and_true] at e1
  subst e1
  obtain ⟨y2, t2, w2⟩ := hf 2 _ 1 rfl (by kernel_rfl)
  replace t2 : DataW.trod enc Tryz.prog W base sp held k 29 [u2] = some y2 := t2
  obtain ⟨a2, l2, c2, e2, s2, m2, o2, g2⟩ := openIntsW t2 w2
  simp only [List.cons.injEq, and_true] at e2
  subst e2
  exact ⟨⟨a0, c0, l0, a1, c1, l1, a2, c2, l2⟩, rfl, ⟨by rw [← flat_one KR.cell]; exact s0, fun x hx => (g0 x hx).1, by rw [← flat_one intV]; exact s1, by rw [← flat_one intV]; exact s2⟩, ⟨m0, fun x hx => (g0 x hx).2.1, fun x hx => (g0 x hx).2.2, m1, m2⟩⟩
end
end Sx
end Go.Proofs.YtbjijbbkfgcleaaGreatDoor
namespace Go.Proofs.YtbjijbbkfgcleaaGreatDoor
open Go.Gv
open Go.RowKit
open Go.Sn
open Go.ChangeShapes Go.WideShapes Go.ChangeAt Go.WideMaps Go.WideElems
namespace Sx
theorem tryLaid : laidOutB Tryz.prog = true := by kernel_rfl
theorem tryOwn : ownKnob Tryz.prog.godebug = none := by kernel_rfl
theorem stays {H : Type} {enc : TypeId × Value → H} {W W' : World} (hb : Below W.heap.size W W') {sp : Nat → Bool} : ∀ {ts : List TypeId} {vs : List Value} {ds : List (DataW H)} {p : List MemPlace},
    DataW.TrodAll enc Tryz.prog W 0 (fun _ => true) true ts vs ds p → (∀ t ∈ ts, Tryz.prog.readableRec t = true ∧ t < Tryz.prog.types.size) → (∀ x ∈ p, x.block < W.heap.size) → (∀ x ∈ p, sp x.block = true) → DataW.TrodAll enc Tryz.prog W' 0 sp true ts vs ds p
  | [], _, _, _, h, _, _, _ => by
    obtain ⟨rfl, rfl, rfl⟩ := trodAll_nil h
    exact h
  | t :: ts, _, _, _, h, hr, hlt, hsp => by
    obtain ⟨v, vs1, d, ds1, a, b, rfl, rfl, rfl, h1, h2⟩ := trodAll_cons h
    have hr1 := hr t (by simp)
    exact ⟨a, b, WideElems.Trod_stays tryLaid hr1.1 hr1.2 h1 (fun x hx => hb.same (hlt x (List.mem_append_left _ hx))) (fun x hx => hsp x (List.mem_append_left _ hx)),
      stays hb h2 (fun u hu => hr u (List.mem_cons_of_mem _ hu)) (fun x hx => hlt x (List.mem_append_right _ hx)) (fun x hx => hsp x (List.mem_append_right _ hx)), rfl⟩
set_option maxRecDepth 100000 in
/-- the law's row: it returned true, and nothing that was there has turned -/
theorem law_post {H : Type} {enc : TypeId × Value → H} {f : Func} {s : ChangeSpec} {fresh handsOn again : Bool} {W W' : World} {args : Array Value} {ds gs : List (DataW H)} {before : List MemPlace}
    (hW : DataW.Whole enc Tryz.prog f.params.toList s.vars false W args.toList ds gs before) (hv : s.vars = []) (hb : Below W.heap.size W W')
    (hrt : f.resultTypes = #[4]) (hres : (s.fn H ds).results = [.lit (.bool true)]) (hargs : (s.fn H ds).args = ds) (hvars : (s.fn H ds).vars = []) (hr : ∀ t ∈ f.params.toList, Tryz.prog.readableRec t = true ∧ t < Tryz.prog.types.size) :
    s.post enc Tryz.prog f false fresh handsOn again W args (.bool true) W' := by
  have hlt : ∀ x ∈ before, x.block < W.heap.size := fun x hx => by simpa using hW.lt x hx
  have hW0 := hW
  obtain ⟨p, q, hA, hV, rfl, hz, hn⟩ := hW
  rw [hv] at hV
  obtain ⟨rfl, rfl⟩ := trodVars_none hV
  simp only [List.append_nil] at hz hlt hW0
  have hR : ∀ (b : Nat) (sp : Nat → Bool) (hd : Bool), DataW.TrodAll enc Tryz.prog W' b sp hd f.resultTypes.toList ((Value.bool true).resultList f.resultTypes.size) (s.fn H (ds ++ [])).results [] := fun b sp hd => by
    rw [List.append_nil, hres, hrt]
    exact trodAll_cons_mk (shut_bool Tryz.underlying4 _) trodAll_mk0
  have hA' : ∀ sp : Nat → Bool, (∀ x ∈ p, sp x.block = true) → DataW.TrodAll enc Tryz.prog W' 0 sp true f.params.toList args.toList (s.fn H (ds ++ [])).args p := fun sp hsp => by
    rw [List.append_nil, hargs]; exact stays hb hA hr hlt hsp
  have hVv : ∀ sp : Nat → Bool, DataW.TrodVars enc Tryz.prog W' sp s.vars (s.fn H (ds ++ [])).vars [] := fun sp => by
    rw [List.append_nil, hv, hvars]; rfl
  have hok : ∀ (j : Nat) (t : TypeId) (r : Value), f.resultTypes[j]? = some t → ((Value.bool true).resultList f.resultTypes.size)[j]? = some r → Value.okWide Tryz.prog W' .any 0 t r := ok_one hrt rfl (okWide_bool_mk Tryz.underlying4 _)
  refine ⟨ds, [], p, [], p, [], hW0, hR _ _ _, hA' _ (fun x hx => by simpa using hlt x hx), hVv _, World.keptBut_mono (fun x hx => ⟨hx, .inr (by simpa using hx)⟩) (hb.frame _), fun _ => ?_⟩
  refine ⟨hok, _, _, ([] ++ p) ++ [], ⟨[] ++ p, [], trodAll_append (hA' (fun _ => true) (fun _ _ => rfl)) (hR _ _ _), hVv _, rfl, ?_, fun h => by cases h⟩, ?_⟩
  · intro b off hp
    have hp' : MemPlace.cell b off ∈ p := by simpa using hp
    rw [hb.frozen (p := ⟨b, off, none⟩) (hlt _ hp')]
    exact hz b off hp'
  · intro x hx _
    simpa using hx
set_option maxRecDepth 100000
def laidL : List (String × DataW Unit) := [("math/bits.deBruijn32tab", Rows.laid_math_bits_deBruijn32tab), ("math/bits.deBruijn64tab", Rows.laid_math_bits_deBruijn64tab), ("internal/strconv.uint64pow10", Rows.laid_internal_strconv_uint64pow10)]
theorem door_met (os : Os) (args : Array Value) : laidMetH Tryz.prog laidL ((World.doorLaid Tryz.prog 400 os).forCall (fun _ _ => 0) ⟨#[], args, []⟩).memory :=
  laidMetH_of_parts3 (fuel := 8) (laidMet_of_run' 8 (by kernel_rfl) (by kernel_rfl)) (by kernel_rfl) (by kernel_rfl)
theorem tab_of {W : World} (h : laidMetH Tryz.prog laidL W) : TabIn W := by
  rw [MakeChecks.laidMetH_plain _ _ _ (by kernel_rfl)] at h
  obtain ⟨ps, ⟨g0, t0, cs0, f0, p0, q0, hg0, ht0, hv0, hd0, ⟨g1, t1, cs1, f1, p1, q1, hg1, ht1, hv1, hd1, ⟨g2, t2, cs2, f2, p2, q2, hg2, ht2, hv2, hd2, _⟩, _⟩, _⟩, _, _⟩ := h
  obtain rfl := Option.some.inj ((show Tryz.prog.globalNamed "math/bits.deBruijn64tab" = some 0 by kernel_rfl).symm.trans hg1)
  obtain rfl := Option.some.inj ((show (Tryz.prog.globals[0]?).map (·.type) = some 156 by kernel_rfl).symm.trans ht1)
  intro i hi
  have h1 := arr_cells (l := tab64) Tryz.underlying156 Tryz.underlying5 (by kernel_rfl) hd1 i hi
  have h2 := World.var?_cell hg1 hv1 i
  rw [show ((⟨0, 0, none⟩ : Addr).add i) = ⟨0, i, none⟩ by rw [Addr.add_lit, Nat.zero_add], h2, ← Array.getElem?_toList]
  exact h1
end Sx
end Go.Proofs.YtbjijbbkfgcleaaGreatDoor
namespace Go.Proofs.YtbjijbbkfgcleaaGreatDoor
open Go.Gv
open Go.RowKit
open Go.Sn
open Sx
namespace Sx
theorem count_le {s : Org} (h : (checkP s).2 = 0) {i : Nat} {x : Rk} (hx : s.rs[i]? = some x) : 1 ≤ x.count ∧ x.count ≤ 97 := by
  have h1 := (checkP_facts h).2.2.1 i (List.getElem?_eq_some_iff.1 hx).1
  have h2 := rkBad_no (rkErr_ok h1)
  rw [getD_some hx] at h2
  exact ⟨h2.2.2.1, h2.2.2.2.1⟩
theorem ranks_le {s : Org} (h : (checkP s).2 = 0) : s.rs.length ≤ 40 ∧ s.ds.length ≤ 6 := by
  have h1 := (checkP_facts h).1
  unfold longB at h1
  simp only [Bool.or_eq_false_iff, decide_eq_false_iff_not] at h1
  omega
theorem range_le {s : Org} (h : (checkP s).2 = 0) {i : Nat} {x : Dv} (hx : s.ds[i]? = some x) : 0 ≤ x.lo ∧ x.lo ≤ x.hi ∧ x.hi ≤ 127 := by
  have h1 := (checkP_facts h).2.1 i (List.getElem?_eq_some_iff.1 hx).1
  have h2 := dvBad_no (dvErr_ok h1)
  rw [getD_some hx] at h2
  exact ⟨h2.1, h2.2.2.1, h2.2.2.2.1⟩
end Sx
open Sx
set_option maxRecDepth 100000 in
set_option maxHeartbeats 1000000 in
theorem rPipes_ok (s : Org) (hle : OrgLe s) (w0 : World) (hS : OrgIn s w0 []) : Sp Tryz.prog 17 [s.val] w0 [] (fun v L => ∃ n e : Int, v = .tuple #[.int .i64 n, .int .i64 e] ∧ L = [] ∧ 0 ≤ n ∧ n ≤ 4000 ∧ (e = 0 → (checkP s).2 = 0)) := by
  refine spec_enter Tryz.func17 rfl Tryz.ntmps17 rfl (Own.refl _) ?_
  simp only [argEnv]
  refine gc_seq <| gc_region <| gl_op (op_box rfl rfl rfl (fun b1 => ?_))
  refine gl_op <| op_rd rfl (rd_assign rfl) <| gl_op <| op_rd rfl (rd_assign rfl) <| gl_nil <| gx_then <| gc_seq <| gc_region <| gl_op (op_rd rfl (rd_loadAgg Tryz.underlying27 rfl ty_27 rfl (by exact cs_blk 0 (off := 0) (k := 4) rfl rfl) rfl) ?_)
  refine gl_op (op_call rfl (vf := []) (vc := []) rfl rfl Tryz.call32 (fun w1 ho => rCheck_ok s hle w1 (hS.at ho)) ?_)
  rintro _ _ ⟨rfl, rfl⟩
  refine gl_op <| op_rd rfl (rd_move rfl) <| gl_op <| op_rd rfl (rd_extract rfl rfl) <| gl_op <| op_rd rfl (rd_extract rfl rfl) <| gl_op (op_alloc ty_90 rfl rfl (fun b4 => ?_))
  refine gl_op (op_storeAgg 0 ty_90 rfl rfl rfl rfl rfl rfl (by rfl) ?_)
  refine gl_op <| op_rd rfl (rd_assign rfl) <| gl_nil <| gx_then <| gc_seq <| gc_seq <| gc_region <| gl_op <| op_rd rfl (rd_move rfl) <| gl_op (op_rd rfl (rd_neq rfl rfl) (gk_dec (fun h14 => ?_) (fun h14 => ?_)))
  · refine gl_nil <| gx_then <| gc_cond_t rfl <| gc_seq <| gc_region <| gl_op <| op_rd rfl (rd_move rfl) <| gl_op <| op_rd rfl (rd_assign rfl) <| gl_op <| op_rd rfl (rd_assign rfl) <| gl_nil <| gx_then <| gc_ret <| gx_then_ret <| gx_ret2 (.inl rfl) Tryz.results17 rfl rfl [] (by decide) ?_
    exact ⟨0, _, rfl, rfl, by omega, by omega, fun h => absurd h (by omega)⟩
  have hck : (checkP s).2 = 0 := by omega
  have hrk := ranks_le hck
  refine gl_nil <| gx_then <| gc_cond_f rfl <| gc_skip <| gx_then <| gc_seq <| gc_region <| gl_op <| op_rd rfl (rd_assign rfl) <| gl_nil <| gx_then <| gc_seq <| gc_seq <| gc_region <| gl_op <| op_rd rfl (rd_assign rfl) <| gl_nil <| gx_then <| gc_block <| gc_loopF (ι := Nat × Int) [(1, _)] [_, _] (fun q => q.1 ≤ s.rs.length ∧ 0 ≤ q.2 ∧ q.2 ≤ 97 * q.1) (fun q Fr0 => ((6, .int .i64 q.2) :: (7, natV q.1) :: Fr0)) (fun q Fr0 => Fr0) (fun q => s.rs.length - q.1) (0, 0) (⟨Nat.zero_le _, by simp, by simp⟩) ⟨rfl, rfl, rfl, trivial⟩ ⟨[0, 1], by decide, rfl⟩ ?_
  rintro ⟨k, n⟩ ⟨hk, hn0, hn1⟩
  simp only at hk hn0 hn1 ⊢
  refine gc_seq <| gc_seq <| gc_region <| gl_op <| op_rd rfl (rd_move rfl) <| gl_op <| op_rd rfl (rd_fieldAddr rfl (fa_27_1 _)) <| gl_op (op_rd rfl (rd_load Tryz.underlying23 rfl rfl (by exact ld_blk 1 rfl rfl)) ?_)
  refine gl_op <| op_rd rfl (rd_lenSlice Tryz.underlying23 rfl) <| gl_op (op_rd rfl (rd_lss rfl rfl) (gk_dec (fun h20 => ?_) (fun h20 => ?_)))
  · obtain ⟨x, hx⟩ := get_some (show k < s.rs.length by omega)
    have hxc := count_le hck hx
    refine gl_nil <| gx_then <| gc_cond_t rfl <| gc_skip <| gx_then <| gc_seq <| gc_block <| gc_region <| gl_op <| op_rd rfl (rd_move rfl) <| gl_op <| op_rd rfl (rd_fieldAddr rfl (fa_27_1 _)) <| gl_op (op_rd rfl (rd_load Tryz.underlying23 rfl rfl (by exact ld_blk 1 rfl rfl)) ?_)
    refine gl_op <| op_rd rfl (rd_move rfl) <| gl_op (op_rd rfl (rd_indexOld hS.r Tryz.underlying23 ty_53 rfl rfl (by omega) (by omega)) ?_)
    refine gl_op <| op_rd rfl (rd_fieldAddr rfl (fa_53_4 _)) <| gl_op (op_rd rfl (rd_load Tryz.underlying3 rfl rfl (ld_slf hS.r (get_flat Rk.cells 6 (fun _ => rfl) hx (j := 5) (by decide) rfl))) ?_)
    refine gl_op (op_rd rfl (rd_add rfl rfl (by omega) (by omega)) ?_)
    refine gl_op <| op_rd rfl (rd_assign rfl) <| gl_nil <| gx_block <| gx_then <| gc_region <| gl_op <| op_rd rfl (rd_move rfl) <| gl_op (op_rd rfl (by exact rd_addN (b := 1) rfl rfl (by omega)) ?_)
    refine gl_op <| op_rd rfl (rd_assign rfl) <| gl_nil <| gx_then ?_
    exact gx_cut ((k + 1, n + x.count)) ⟨⟨by simp only; omega, by simp only; omega, by simp only; omega⟩, by simp only; omega⟩ ⟨rfl, rfl, rfl, trivial⟩ ⟨[0, 1], by decide, rfl⟩
  refine gl_nil <| gx_then <| gc_cond_f rfl <| gc_exit <| gx_then_exit <| gx_then_exit <| gx_block_exit <| gx_then <| gc_seq <| gc_region <| gl_op <| op_rd rfl (rd_move rfl) <| gl_op <| op_rd rfl (rd_assign rfl) <| gl_op <| op_rd rfl (rd_assign rfl) <| gl_nil <| gx_then <| gc_ret <| gx_ret2 (.inl rfl) Tryz.results17 rfl rfl [] (by decide) ?_
  exact ⟨n, 0, rfl, rfl, hn0, by omega, fun _ => hck⟩
set_option maxRecDepth 100000 in
set_option maxHeartbeats 1000000 in
theorem large_ok (s : Org) (hle : OrgLe s) (h : Hd) (w0 : World) (hS : OrgIn s w0 []) : Sp Tryz.prog 7 [s.val, h.val] w0 [] (fun v L => ∃ b, v = .bool b ∧ L = []) := by
  refine spec_enter Tryz.func7 rfl Tryz.ntmps7 rfl (Own.refl _) ?_
  simp only [argEnv]
  refine gc_seq <| gc_region <| gl_op (op_box rfl rfl rfl (fun b2 => ?_))
  refine gl_op (op_box rfl rfl rfl (fun b3 => ?_))
  refine gl_op <| op_rd rfl (rd_assign rfl) <| gl_nil <| gx_then <| gc_seq <| gc_region <| gl_op (op_rd rfl (rd_loadAgg Tryz.underlying27 rfl ty_27 rfl (by exact cs_blk 1 (off := 0) (k := 4) rfl rfl) rfl) ?_)
  refine gl_op (op_call rfl (vf := []) (vc := []) rfl rfl Tryz.call17 (fun w1 ho => rPipes_ok s hle w1 (hS.at ho)) ?_)
  rintro _ _ ⟨n, e, rfl, rfl, hn0, hn1, hne⟩
  refine gl_op <| op_rd rfl (rd_move rfl) <| gl_op <| op_rd rfl (rd_extract rfl rfl) <| gl_op <| op_rd rfl (rd_extract rfl rfl) <| gl_op <| op_rd rfl (rd_assign rfl) <| gl_op <| op_rd rfl (rd_assign rfl) <| gl_nil <| gx_then <| gc_seq <| gc_seq <| gc_region <| gl_op <| op_rd rfl (rd_move rfl) <| gl_op (op_rd rfl (rd_neq rfl rfl) (gk_dec (fun h15 => ?_) (fun h15 => ?_)))
  · refine gl_nil <| gx_then <| gc_cond_t rfl <| gc_seq <| gc_region <| gl_op <| op_rd rfl (rd_assign rfl) <| gl_nil <| gx_then <| gc_ret <| gx_then_ret <| gx_ret1 (.inl rfl) Tryz.results7 rfl [] (by decide) ?_
    exact ⟨_, rfl, rfl⟩
  have hck := hne (by omega)
  have hrk := ranks_le hck
  refine gl_nil <| gx_then <| gc_cond_f rfl <| gc_skip <| gx_then <| gc_seq <| gc_region <| gl_op <| op_rd rfl (rd_assign rfl) <| gl_nil <| gx_then <| gc_seq <| gc_seq <| gc_region <| gl_op <| op_rd rfl (rd_assign rfl) <| gl_nil <| gx_then <| gc_block <| gc_loopF (ι := Nat × Int) [(2, _), (3, _), (5, _)] [_, _] (fun q => q.1 ≤ s.ds.length ∧ 0 ≤ q.2 ∧ q.2 ≤ 128) (fun q Fr0 => ((7, .int .i64 q.2) :: (8, natV q.1) :: Fr0)) (fun q Fr0 => Fr0) (fun q => s.ds.length - q.1) (0, 0) (⟨Nat.zero_le _, by simp, by simp⟩) ⟨rfl, rfl, rfl, rfl, rfl, trivial⟩ ⟨[0, 1], by decide, rfl⟩ ?_
  rintro ⟨k, m⟩ ⟨hk, hm0, hm1⟩
  simp only at hk hm0 hm1 ⊢
  refine gc_seq <| gc_seq <| gc_region <| gl_op <| op_rd rfl (rd_move rfl) <| gl_op <| op_rd rfl (rd_fieldAddr rfl (fa_27_0 _)) <| gl_op (op_rd rfl (rd_load Tryz.underlying22 rfl rfl (by exact ld_blk 1 rfl rfl)) ?_)
  refine gl_op <| op_rd rfl (rd_lenSlice Tryz.underlying22 rfl) <| gl_op (op_rd rfl (rd_lss rfl rfl) (gk_dec (fun h20 => ?_) (fun h20 => ?_)))
  · obtain ⟨x, hx⟩ := get_some (show k < s.ds.length by omega)
    have hxr := range_le hck hx
    refine gl_nil <| gx_then <| gc_cond_t rfl <| gc_skip <| gx_then <| gc_seq <| gc_block <| gc_drawP [0, 1] true 16 rfl <| ga_first 0 (bm 17 1) rfl rfl rfl rfl (by kernel_rfl) (by kernel_rfl) ⟨[0, 1], by decide, rfl⟩ (qt_rd (rd_move rfl)) ?_
    refine ga_first 1 (bm 17 3) rfl rfl rfl rfl (by kernel_rfl) (by kernel_rfl) ⟨[0, 1], by decide, rfl⟩ (qt_rd (rd_fieldAddr rfl (fa_27_0 _))) ?_
    refine ga_first 2 (bm 17 7) rfl rfl rfl rfl (by kernel_rfl) (by kernel_rfl) ⟨[0, 1], by decide, rfl⟩ (qt_rd (rd_load Tryz.underlying22 rfl rfl (by exact ld_blk 1 rfl rfl))) ?_
    refine ga_first 3 (bm 17 15) rfl rfl rfl rfl (by kernel_rfl) (by kernel_rfl) ⟨[0, 1], by decide, rfl⟩ (qt_rd (rd_move rfl)) ?_
    refine ga_first 4 (bm 17 31) rfl rfl rfl rfl (by kernel_rfl) (by kernel_rfl) ⟨[0, 1], by decide, rfl⟩ (qt_rd (rd_indexOld hS.d Tryz.underlying22 ty_49 rfl rfl (by omega) (by omega))) ?_
    refine ga_first 5 (bm 17 63) rfl rfl rfl rfl (by kernel_rfl) (by kernel_rfl) ⟨[0, 1], by decide, rfl⟩ (qt_rd (rd_fieldAddr rfl (fa_49_2 _))) ?_
    refine ga_first 6 (bm 17 127) rfl rfl rfl rfl (by kernel_rfl) (by kernel_rfl) ⟨[0, 1], by decide, rfl⟩ (qt_rd (rd_load Tryz.underlying3 rfl rfl (ld_slf hS.d (get_flat Dv.cells 3 (fun _ => rfl) hx (j := 2) (by decide) rfl)))) ?_
    refine ga_first 7 (bm 17 255) rfl rfl rfl rfl (by kernel_rfl) (by kernel_rfl) ⟨[0, 1], by decide, rfl⟩ (qt_rd (rd_fieldAddr rfl (fa_27_0 _))) ?_
    refine ga_first 8 (bm 17 511) rfl rfl rfl rfl (by kernel_rfl) (by kernel_rfl) ⟨[0, 1], by decide, rfl⟩ (qt_rd (rd_load Tryz.underlying22 rfl rfl (by exact ld_blk 1 rfl rfl))) ?_
    refine ga_first 9 (bm 17 1023) rfl rfl rfl rfl (by kernel_rfl) (by kernel_rfl) ⟨[0, 1], by decide, rfl⟩ (qt_rd (rd_move rfl)) ?_
    refine ga_first 10 (bm 17 2047) rfl rfl rfl rfl (by kernel_rfl) (by kernel_rfl) ⟨[0, 1], by decide, rfl⟩ (qt_rd (rd_indexOld hS.d Tryz.underlying22 ty_49 rfl rfl (by omega) (by omega))) ?_
    refine ga_first 11 (bm 17 4095) rfl rfl rfl rfl (by kernel_rfl) (by kernel_rfl) ⟨[0, 1], by decide, rfl⟩ (qt_rd (rd_fieldAddr rfl (fa_49_1 _))) ?_
    refine ga_first 12 (bm 17 8191) rfl rfl rfl rfl (by kernel_rfl) (by kernel_rfl) ⟨[0, 1], by decide, rfl⟩ (qt_rd (rd_load Tryz.underlying3 rfl rfl (ld_slf hS.d (get_flat Dv.cells 3 (fun _ => rfl) hx (j := 1) (by decide) rfl)))) ?_
    refine ga_first 13 (bm 17 16383) rfl rfl rfl rfl (by kernel_rfl) (by kernel_rfl) ⟨[0, 1], by decide, rfl⟩ (qt_rd (by exact rd_sub rfl rfl (by omega) (by omega))) ?_
    refine ga_first 14 (bm 17 32767) rfl rfl rfl rfl (by kernel_rfl) (by kernel_rfl) ⟨[0, 1], by decide, rfl⟩ (qt_rd (by exact rd_add rfl rfl (by omega) (by omega))) ?_
    refine ga_first 15 (bm 17 65535) rfl rfl rfl rfl (by kernel_rfl) (by kernel_rfl) ⟨[0, 1], by decide, rfl⟩ (qt_rd (rd_max2 rfl rfl)) ?_
    refine ga_first 16 (bm 17 131071) rfl rfl rfl rfl (by kernel_rfl) (by kernel_rfl) ⟨[0, 1], by decide, rfl⟩ (qt_rd (rd_assign rfl)) ?_
    refine ga_end (by kernel_rfl) (.inr ⟨[0, 1], by decide, rfl⟩) ?_
    refine gx_block <| gx_then <| gc_region <| gl_op <| op_rd rfl (rd_move rfl) <| gl_op (op_rd rfl (by exact rd_addN (b := 1) rfl rfl (by omega)) ?_)
    refine gl_op <| op_rd rfl (rd_assign rfl) <| gl_nil <| gx_then ?_
    exact gx_cut ((k + 1, max m (x.hi - x.lo + 1))) ⟨⟨by simp only; omega, by simp only; omega, by simp only; omega⟩, by simp only; omega⟩ ⟨rfl, rfl, rfl, rfl, rfl, trivial⟩ ⟨[0, 1], by decide, rfl⟩
  refine gl_nil <| gx_then <| gc_cond_f rfl <| gc_exit <| gx_then_exit <| gx_then_exit <| gx_block_exit <| gx_then <| gc_seq <| gc_region <| gl_op <| op_rd rfl (rd_move rfl) <| gl_op <| op_rd rfl (rd_move rfl) <| gl_op <| op_rd rfl (rd_mulk rfl rfl) <| gl_op <| op_rd rfl (rd_fieldAddr rfl (fa_31_1 _)) <| gl_op (op_rd rfl (rd_load Tryz.underlying29 rfl rfl (by exact ld_blk 0 rfl rfl)) ?_)
  refine gl_op <| op_rd rfl (rd_lenSlice Tryz.underlying29 rfl) <| gl_op <| op_rd rfl (rd_mulk rfl rfl) <| gl_op <| op_rd rfl (rd_gtr rfl rfl) <| gl_op <| op_rd rfl (rd_assign rfl) <| gl_nil <| gx_then <| gc_ret <| gx_ret1 (.inl rfl) Tryz.results7 rfl [] (by decide) ?_
  exact ⟨_, rfl, rfl⟩
end Go.Proofs.YtbjijbbkfgcleaaGreatDoor
namespace Go.Proofs.YtbjijbbkfgcleaaGreatDoor
open Go.Gv
open Go.RowKit
open Go.Sn
open Sx
namespace Sx
end Sx
open Sx
end Go.Proofs.YtbjijbbkfgcleaaGreatDoor
namespace Go.Proofs.YtbjijbbkfgcleaaGreatDoor
open Go.Gv
open Go.RowKit
open Go.Sn
open Sx
namespace Sx
theorem db_pipe {D : List Db} {k : Nat} {x : Db} (h : D[k]? = some x) : ((D.flatMap dbC).drop (k * 3)).take 2 = plC x.1 := by
  have h1 := flat_drop_get dbC 3 (fun _ => rfl) h
  have h2 := congrArg (List.take 2) h1
  rw [List.take_take] at h2
  exact h2
theorem pl_len (X : List Pl) (x : Pl) : X.length + 1 = (X ++ [x]).length := by rw [List.length_append]; rfl
theorem pl_cells (X : List Pl) (x : Pl) : X.flatMap plC ++ plC x = (X ++ [x]).flatMap plC := by rw [List.flatMap_append]; simp
end Sx
open Sx
set_option maxRecDepth 100000 in
set_option maxHeartbeats 1000000 in
theorem rAll_ok (s : Org) (hle : OrgLe s) (hck : (checkP s).2 = 0) (w0 : World) (hS : OrgIn s w0 []) : Sp Tryz.prog 44 [s.val] w0 [] (fun v L => ∃ r c, v = .slice (rowA r) (allP s).length c ∧ L = [.row 69 2 r (allP s).length c ((allP s).flatMap plC)]) := by
  have hnr := (ranks_le hck).1
  refine spec_enter Tryz.func44 rfl Tryz.ntmps44 rfl (Own.refl _) ?_
  simp only [argEnv]
  refine gc_seq <| gc_region <| gl_op (op_box rfl rfl rfl (fun b1 => ?_))
  refine gl_op <| op_rd rfl (rd_assign rfl) <| gl_nil <| gx_then <| gc_seq <| gc_region <| gl_op <| op_rd rfl (rd_assign rfl) <| gl_nil <| gx_then <| gc_seq <| gc_seq <| gc_region <| gl_op <| op_rd rfl (rd_assign rfl) <| gl_nil <| gx_then <| gc_block <| gk_nil 69 2 <| gc_loopF (ι := Nat × Option Nat × Nat) [(1, _)] [_] (fun q => q.1 ≤ s.rs.length) (fun q Fr0 => ((3, .slice (rowA q.2.1) (allK s q.1).length q.2.2) :: (4, natV q.1) :: Fr0)) (fun q Fr0 => (.row 69 2 q.2.1 (allK s q.1).length q.2.2 ((allK s q.1).flatMap plC) :: Fr0)) (fun q => s.rs.length - q.1) (0, none, 0) (Nat.zero_le _) ⟨rfl, rfl, rfl, trivial⟩ ⟨[0, 1], by decide, rfl⟩ ?_
  rintro ⟨r, r3, c3⟩ hr
  simp only at hr ⊢
  have hal := allK_len hck r hr
  refine gc_seq <| gc_seq <| gc_region <| gl_op <| op_rd rfl (rd_move rfl) <| gl_op <| op_rd rfl (rd_fieldAddr rfl (fa_27_1 _)) <| gl_op (op_rd rfl (rd_load Tryz.underlying23 rfl rfl (by exact ld_blk 1 rfl rfl)) ?_)
  refine gl_op <| op_rd rfl (rd_lenSlice Tryz.underlying23 rfl) <| gl_op (op_rd rfl (rd_lss rfl rfl) (gk_dec (fun h10 => ?_) (fun h10 => ?_)))
  · obtain ⟨x, hx⟩ := get_some (show r < s.rs.length by omega)
    have hrk := Go.Sn.rank_ok hck (show r < s.rs.length by omega)
    have hxr : rkA s r = x := getD_some hx
    have hlo : x.low = (((rkA s r).low.toNat : Nat) : Int) := by rw [hxr] at hrk ⊢; omega
    have hct : x.count = (((rkA s r).count.toNat : Nat) : Int) := by rw [hxr] at hrk ⊢; omega
    have hc97 : (rkA s r).count.toNat ≤ 97 := by omega
    have hlo127 : (rkA s r).low.toNat ≤ 127 := by omega
    refine gl_nil <| gx_then <| gc_cond_t rfl <| gc_skip <| gx_then <| gc_seq <| gc_block <| gc_seq <| gc_region <| gl_op <| op_rd rfl (rd_assign rfl) <| gl_nil <| gx_then <| gc_block ?_
    rw [show allK s r = (allK s r ++ allI s r 0) from (List.append_nil _).symm]
    refine gc_loopF (ι := Nat × Option Nat × Nat) [(1, _), (4, _)] [_] (fun q => q.1 ≤ (rkA s r).count.toNat) (fun q Fr0 => ((3, .slice (rowA q.2.1) ((allK s r ++ allI s r q.1)).length q.2.2) :: (5, natV q.1) :: Fr0)) (fun q Fr0 => (.row 69 2 q.2.1 ((allK s r ++ allI s r q.1)).length q.2.2 (((allK s r ++ allI s r q.1)).flatMap plC) :: Fr0)) (fun q => (rkA s r).count.toNat - q.1) (0, r3, c3) (Nat.zero_le _) ⟨rfl, rfl, rfl, rfl, trivial⟩ ⟨[0, 1], by decide, rfl⟩ ?_
    rintro ⟨k, rb, cb⟩ hk
    simp only at hk ⊢
    have hil : (allK s r ++ allI s r k).length ≤ r * 97 + k := by rw [List.length_append, allI_len]; omega
    refine gc_seq <| gc_seq <| gc_region <| gl_op <| op_rd rfl (rd_move rfl) <| gl_op <| op_rd rfl (rd_fieldAddr rfl (fa_27_1 _)) <| gl_op (op_rd rfl (rd_load Tryz.underlying23 rfl rfl (by exact ld_blk 1 rfl rfl)) ?_)
    refine gl_op <| op_rd rfl (rd_move rfl) <| gl_op (op_rd rfl (rd_indexOld hS.r Tryz.underlying23 ty_53 rfl rfl (by omega) (by omega)) ?_)
    refine gl_op <| op_rd rfl (rd_fieldAddr rfl (fa_53_4 _)) <| gl_op (op_rd rfl (rd_load Tryz.underlying3 rfl rfl (ld_slf hS.r (get_flat Rk.cells 6 (fun _ => rfl) hx (j := 5) (by decide) rfl))) ?_)
    rw [hct]
    refine gl_op (op_rd rfl (rd_lss rfl rfl) (gk_dec (fun h20 => ?_) (fun h20 => ?_)))
    · refine gl_nil <| gx_then <| gc_cond_t rfl <| gc_skip <| gx_then <| gc_seq <| gc_block <| gc_region <| gl_op <| op_rd rfl (rd_move rfl) <| gl_op <| op_rd rfl (rd_move rfl) <| gl_op <| op_rd rfl (rd_fieldAddr rfl (fa_27_1 _)) <| gl_op (op_rd rfl (rd_load Tryz.underlying23 rfl rfl (by exact ld_blk 1 rfl rfl)) ?_)
      refine gl_op <| op_rd rfl (rd_move rfl) <| gl_op (op_rd rfl (rd_indexOld hS.r Tryz.underlying23 ty_53 rfl rfl (by omega) (by omega)) ?_)
      refine gl_op <| op_rd rfl (rd_fieldAddr rfl (fa_53_3 _)) <| gl_op (op_rd rfl (rd_load Tryz.underlying3 rfl rfl (ld_slf hS.r (get_flat Rk.cells 6 (fun _ => rfl) hx (j := 4) (by decide) rfl))) ?_)
      refine gl_op <| op_rd rfl (rd_move rfl) ?_
      rw [hlo]
      refine gl_op (op_rd rfl (rd_addN rfl rfl (by omega)) ?_)
      refine gl_op (op_rd rfl (rd_build rfl (fun _ => bd_69_0_1 _ _)) ?_)
      refine gl_op (op_buildSlice (sz := 2) rfl rfl (fun _ => bs_36_1_0 _ _) rfl rfl (fun b34 => ?_))
      refine gl_op (op_appendRow 1 0 Tryz.underlying36 ty_69 rfl (by decide) rfl rfl rfl rfl rfl (by simp [Value.oneCell']) (by omega) (by omega) (fun _ => (by rfl)) (fun r35 c35 => ?_))
      refine gl_op <| op_rd rfl (rd_assign rfl) <| gl_nil <| gx_block <| gx_then <| gc_region <| gl_op <| op_rd rfl (rd_move rfl) <| gl_op (op_rd rfl (by exact rd_addN (b := 1) rfl rfl (by omega)) ?_)
      refine gl_op <| op_rd rfl (rd_assign rfl) <| gl_nil <| gx_then ?_
      have hnx := allI_next s r k
      rw [show (allK s r ++ allI s r k).length + 1 = (allK s r ++ allI s r (k + 1)).length by rw [hnx, ← List.append_assoc]; exact pl_len _ _, show (allK s r ++ allI s r k).flatMap plC ++ [natV r, natV ((rkA s r).low.toNat + k)] = (allK s r ++ allI s r (k + 1)).flatMap plC by rw [hnx, ← List.append_assoc]; exact pl_cells _ (r, _)]
      exact gx_cut ((k + 1, r35, c35)) ⟨by simp only; omega, by simp only; omega⟩ ⟨rfl, rfl, rfl, rfl, trivial⟩ ⟨[1, 2], by decide, rfl⟩
    have hk9 : k = (rkA s r).count.toNat := by omega
    subst hk9
    rw [← allK_next]
    refine gl_nil <| gx_then <| gc_cond_f rfl <| gc_exit <| gx_then_exit <| gx_then_exit <| gx_block_exit <| gx_block <| gx_then <| gc_region <| gl_op <| op_rd rfl (rd_move rfl) <| gl_op (op_rd rfl (by exact rd_addN (b := 1) rfl rfl (by omega)) ?_)
    refine gl_op <| op_rd rfl (rd_assign rfl) <| gl_nil <| gx_then ?_
    exact gx_cut ((r + 1, rb, cb)) ⟨by simp only; omega, by simp only; omega⟩ ⟨rfl, rfl, rfl, trivial⟩ ⟨[0, 1], by decide, rfl⟩
  have hr9 : r = s.rs.length := by omega
  subst hr9
  refine gl_nil <| gx_then <| gc_cond_f rfl <| gc_exit <| gx_then_exit <| gx_then_exit <| gx_block_exit <| gx_then <| gc_seq <| gc_region <| gl_op <| op_rd rfl (rd_move rfl) <| gl_op <| op_rd rfl (rd_assign rfl) <| gl_nil <| gx_then <| gc_ret <| gx_ret1 (.inl rfl) Tryz.results44 rfl [0] (by decide) ?_
  exact ⟨r3, c3, rfl, rfl⟩
set_option maxRecDepth 100000 in
set_option maxHeartbeats 1000000 in
theorem rSounds_ok (s : Org) (h : HN) (hle : OrgLe s) (hg : HGood s h) (b5 c5 : Nat) (gs : List Nat) (tb : List (List CE)) (hgs : gs.length = s.ds.length) (htb : TbLen s.ds.length tb) (hch : Chains (cxN s h) (tabR tb)) (w0 : World) (hS : OrgIn s w0 []) (hH : HNIn h w0 []) (hT5 : OldSl w0 [] (rowA (some b5)) s.ds.length 1 (gsC gs)) (hTr : ∀ (d g : Nat) (row : List CE), gs[d]? = some g → tb[d]? = some row → OldSl w0 [] (rowA (some g)) 128 4 (row.flatMap ceC)) : Sp Tryz.prog 28 [s.val, h.val, .slice (rowA (some b5)) s.ds.length c5] w0 [] (fun v L => ∃ r c, v = .slice (rowA r) (rsD s (cntP s h h.ss.length) (allP s).length).length c ∧ L = [.row 81 3 r (rsD s (cntP s h h.ss.length) (allP s).length).length c ((rsD s (cntP s h h.ss.length) (allP s).length).flatMap dbC)]) := by
  have hA := hg.cx
  have hnd : s.ds.length ≤ 6 := hA.nd
  have hns := hg.ns
  have hssl := asc_len hg.ssA hg.ssN
  refine spec_enter Tryz.func28 rfl Tryz.ntmps28 rfl (Own.refl _) ?_
  simp only [argEnv]
  refine gc_seq <| gc_region <| gl_op (op_box rfl rfl rfl (fun b3 => ?_))
  refine gl_op (op_box rfl rfl rfl (fun b4 => ?_))
  refine gl_op <| op_rd rfl (rd_assign rfl) <| gl_nil <| gx_then <| gc_seq <| gc_region <| gl_op (op_rd rfl (rd_loadAgg Tryz.underlying27 rfl ty_27 rfl (by exact cs_blk 1 (off := 0) (k := 4) rfl rfl) rfl) ?_)
  refine gl_op (op_call rfl (vf := []) (vc := []) rfl rfl Tryz.call44 (fun w1 ho => rAll_ok s hle hg.spec w1 (hS.at ho)) ?_)
  rintro _ _ ⟨r16, c16, rfl, rfl⟩
  have hal := allK_len hg.spec s.rs.length (Nat.le_refl _)
  change (allP s).length ≤ _ at hal
  have hnr := hg.nr
  refine gl_op <| op_rd rfl (rd_assign rfl) <| gl_nil <| gx_then <| gc_seq <| gc_region <| gl_op <| op_rd rfl (rd_assign rfl) <| gl_nil <| gx_then <| gc_seq <| gc_seq <| gc_region <| gl_op <| op_rd rfl (rd_assign rfl) <| gl_nil <| gx_then <| gc_block <| gk_nil 81 3 <| gc_loopF (ι := Nat × Option Nat × Nat) [(2, _), (3, _), (4, _), (7, _)] [_, _, _] (fun p => p.1 ≤ (allP s).length) (fun p Fr0 => ((8, .slice (rowA p.2.1) (rsD s (cntP s h h.ss.length) p.1).length p.2.2) :: (9, natV p.1) :: Fr0)) (fun p Fr0 => (.row 81 3 p.2.1 (rsD s (cntP s h h.ss.length) p.1).length p.2.2 ((rsD s (cntP s h h.ss.length) p.1).flatMap dbC) :: Fr0)) (fun p => (allP s).length - p.1) (0, none, 0) (Nat.zero_le _) ⟨rfl, rfl, rfl, rfl, rfl, rfl, trivial⟩ ⟨[0, 1, 2, 3], by decide, rfl⟩ ?_
  rintro ⟨k, r8, c8⟩ hk
  simp only at hk ⊢
  have hrsl := rsD_len s (cntP s h h.ss.length) k
  refine gc_seq <| gc_seq <| gc_region <| gl_op <| op_rd rfl (rd_move rfl) <| gl_op <| op_rd rfl (rd_move rfl) <| gl_op <| op_rd rfl (rd_lenSlice Tryz.underlying36 rfl) <| gl_op (op_rd rfl (rd_lss rfl rfl) (gk_dec (fun h20 => ?_) (fun h20 => ?_)))
  · obtain ⟨q, hq⟩ := get_some (show k < (allP s).length by omega)
    have hcle := fun j => cntP_le s h j q
    refine gl_nil <| gx_then <| gc_cond_t rfl <| gc_skip <| gx_then <| gc_seq <| gc_block <| gc_seq <| gc_region <| gl_op <| op_rd rfl (rd_assign rfl) <| gl_nil <| gx_then <| gc_seq <| gc_seq <| gc_region <| gl_op <| op_rd rfl (rd_assign rfl) <| gl_nil <| gx_then <| gc_block <| gc_loopF (ι := Nat) [(2, _), (3, _), (4, _), (7, _), (8, _), (9, _)] [_, _, _, _] (fun j => j ≤ h.ss.length) (fun j Fr0 => ((10, natV (cntP s h j q)) :: (11, natV j) :: Fr0)) (fun j Fr0 => Fr0) (fun j => h.ss.length - j) 0 (Nat.zero_le _) ⟨rfl, rfl, rfl, rfl, rfl, rfl, rfl, rfl, trivial⟩ ⟨[0, 1, 2, 3], by decide, rfl⟩ ?_
    rintro j hj
    refine gc_seq <| gc_seq <| gc_region <| gl_op <| op_rd rfl (rd_move rfl) <| gl_op <| op_rd rfl (rd_fieldAddr rfl (fa_31_1 _)) <| gl_op (op_rd rfl (rd_load Tryz.underlying29 rfl rfl (by exact ld_blk 2 rfl rfl)) ?_)
    refine gl_op <| op_rd rfl (rd_lenSlice Tryz.underlying29 rfl) <| gl_op (op_rd rfl (rd_lss rfl rfl) (gk_dec (fun h27 => ?_) (fun h27 => ?_)))
    · obtain ⟨i0, hi0⟩ := get_some (show j < h.ss.length by omega)
      obtain ⟨x, hx⟩ := get_some (hg.ssN i0 (List.mem_of_getElem? hi0))
      have hxm := List.mem_of_getElem? hx
      obtain ⟨hv0, hv1, hpo, hp12, hpb⟩ := Go.Sn.stop_ok hg hx
      have hil : i0 < s.ss.length := (List.getElem?_eq_some_iff.1 hx).1
      have hdl : x.div.toNat < s.ds.length := by omega
      obtain ⟨d, hd⟩ := get_some hdl
      have hdi : (cxN s h).dv x.div.toNat = d := getD_some hd
      have hrg := hA.rng x.div.toNat hdl
      rw [hdi] at hrg
      obtain ⟨lo, hlo⟩ : ∃ lo : Nat, d.lo = lo := ⟨d.lo.toNat, by omega⟩
      obtain ⟨hi, hhi⟩ : ∃ hi : Nat, d.hi = hi := ⟨d.hi.toNat, by omega⟩
      obtain ⟨g5, hg5⟩ := get_some (show x.div.toNat < gs.length by omega)
      obtain ⟨row, hrow⟩ := get_some (show x.div.toNat < tb.length by rw [htb.len]; exact hdl)
      have hrl := htb.row row (List.mem_of_getElem? hrow)
      have hTrow := hTr _ _ _ hg5 hrow
      have hcl0 : cntK x (rowK (tabR tb) x.div.toNat lo) q = 0 := cnt_low hA hch hdl (by rw [hdi]; exact hlo)
      have hxs : stA s i0 = x := getD_some hx
      have hcj := hcle j
      refine gl_nil <| gx_then <| gc_cond_t rfl <| gc_skip <| gx_then <| gc_seq <| gc_block <| gc_seq <| gc_drawP [0, 1, 2, 3] false 10 rfl <| ga_first 0 (bm 11 1) rfl rfl rfl rfl (by kernel_rfl) (by kernel_rfl) ⟨[0, 1, 2, 3], by decide, rfl⟩ (qt_rd (rd_fieldAddr rfl (fa_27_2 _))) ?_
      refine ga_first 1 (bm 11 3) rfl rfl rfl rfl (by kernel_rfl) (by kernel_rfl) ⟨[0, 1, 2, 3], by decide, rfl⟩ (qt_rd (rd_load Tryz.underlying24 rfl rfl (by exact ld_blk 3 rfl rfl))) ?_
      refine ga_first 2 (bm 11 7) rfl rfl rfl rfl (by kernel_rfl) (by kernel_rfl) ⟨[0, 1, 2, 3], by decide, rfl⟩ (qt_rd (rd_fieldAddr rfl (fa_31_1 _))) ?_
      refine ga_first 3 (bm 11 15) rfl rfl rfl rfl (by kernel_rfl) (by kernel_rfl) ⟨[0, 1, 2, 3], by decide, rfl⟩ (qt_rd (rd_load Tryz.underlying29 rfl rfl (by exact ld_blk 2 rfl rfl))) ?_
      refine ga_first 4 (bm 11 31) rfl rfl rfl rfl (by kernel_rfl) (by kernel_rfl) ⟨[0, 1, 2, 3], by decide, rfl⟩ (qt_rd (rd_move rfl)) ?_
      refine ga_first 5 (bm 11 63) rfl rfl rfl rfl (by kernel_rfl) (by kernel_rfl) ⟨[0, 1, 2, 3], by decide, rfl⟩ (qt_rd (rd_indexOld1 hH.t Tryz.underlying29 ty_3 rfl rfl (by omega) (by omega))) ?_
      refine ga_first 6 (bm 11 127) rfl rfl rfl rfl (by kernel_rfl) (by kernel_rfl) ⟨[0, 1, 2, 3], by decide, rfl⟩ (qt_rd (rd_load Tryz.underlying3 rfl rfl (ld_slN hH.t (get_nz hi0)))) ?_
      refine ga_first 7 (bm 11 255) rfl rfl rfl rfl (by kernel_rfl) (by kernel_rfl) ⟨[0, 1, 2, 3], by decide, rfl⟩ (qt_rd (rd_indexOld hS.t Tryz.underlying24 ty_56 rfl rfl (by omega) (by omega))) ?_
      refine ga_first 8 (bm 11 511) rfl rfl rfl rfl (by kernel_rfl) (by kernel_rfl) ⟨[0, 1, 2, 3], by decide, rfl⟩ (qt_rd (rd_loadAgg Tryz.underlying56 rfl ty_56 rfl (cs_slN hS.t (flat_drop_get St.cells 5 (fun _ => rfl) hx)) rfl)) ?_
      refine ga_only 9 (bm 11 1023) rfl rfl (by kernel_rfl) (by kernel_rfl) (.inr ⟨[0, 1, 2, 3], by decide, rfl⟩) (op_alloc ty_56 rfl rfl (fun b12 => ?_))
      refine ga_only 10 (bm 11 2047) rfl rfl (by kernel_rfl) (by kernel_rfl) (.inr ⟨[1, 2, 3, 4], by decide, rfl⟩) (op_storeAgg 0 ty_56 rfl rfl rfl rfl rfl rfl (by rfl) ?_)
      refine ga_end (by kernel_rfl) (.inl (by kernel_rfl)) ?_
      refine gx_then <| gc_seq ?_
      simp only [St.cells]
      refine gc_region <| gl_op <| op_rd rfl (rd_fieldAddr rfl (fa_27_0 _)) <| gl_op (op_rd rfl (rd_load Tryz.underlying22 rfl rfl (by exact ld_blk 4 rfl rfl)) ?_)
      refine gl_op <| op_rd rfl (rd_fieldAddr rfl (fa_56_1 _)) <| gl_op (op_rd rfl (rd_load Tryz.underlying3 rfl rfl (by exact ld_blk 0 rfl rfl)) ?_)
      refine gl_op (op_rd rfl (rd_indexOld hS.d Tryz.underlying22 ty_49 rfl rfl (by omega) (by omega)) ?_)
      refine gl_op (op_rd rfl (rd_loadAgg Tryz.underlying49 rfl ty_49 rfl (cs_slN hS.d (flat_drop_get Dv.cells 3 (fun _ => rfl) hd)) rfl) ?_)
      refine gl_op (op_alloc ty_49 rfl rfl (fun b13 => ?_))
      refine gl_op (op_storeAgg 0 ty_49 rfl rfl rfl rfl rfl rfl (by rfl) ?_)
      refine gl_nil <| gx_then <| gc_seq ?_
      simp only [Dv.cells]
      rw [hlo, hhi]
      refine gc_region <| gl_op <| op_rd rfl (rd_fieldAddr rfl (fa_49_1 _)) <| gl_op (op_rd rfl (rd_load Tryz.underlying3 rfl rfl (by exact ld_blk 0 rfl rfl)) ?_)
      refine gl_op <| op_rd rfl (rd_assign rfl) <| gl_nil <| gx_then <| gc_block ?_
      rw [show natV (cntP s h j q) = natV (cntP s h j q + cntK x (rowK (tabR tb) x.div.toNat lo) q) by rw [hcl0, Nat.add_zero]]
      refine gc_loopF (ι := Nat) [(2, _), (3, _), (4, _), (7, _), (8, _), (9, _), (11, _), (12, _), (13, _)] [_, _, _, _, _, _] (fun n => lo ≤ n ∧ n ≤ hi + 1) (fun n Fr0 => ((10, natV (cntP s h j q + cntK x (rowK (tabR tb) x.div.toNat n) q)) :: (14, natV n) :: Fr0)) (fun n Fr0 => Fr0) (fun n => hi + 1 - n) lo (⟨Nat.le_refl _, by omega⟩) ⟨rfl, rfl, rfl, rfl, rfl, rfl, rfl, rfl, rfl, rfl, rfl, trivial⟩ ⟨[0, 1, 2, 3, 4, 5], by decide, rfl⟩ ?_
      rintro n ⟨hn0, hn1⟩
      refine gc_seq <| gc_seq <| gc_region <| gl_op <| op_rd rfl (rd_move rfl) <| gl_op <| op_rd rfl (rd_fieldAddr rfl (fa_49_2 _)) <| gl_op (op_rd rfl (rd_load Tryz.underlying3 rfl rfl (by exact ld_blk 0 rfl rfl)) ?_)
      refine gl_op (op_rd rfl (rd_leq rfl rfl) (gk_dec (fun h50 => ?_) (fun h50 => ?_)))
      · obtain ⟨en, hen⟩ := get_some (show n < row.length by rw [hrl]; omega)
        have hent : entR tb (x.div.toNat, n) = en := by unfold entR; rw [getD_some hrow, getD_some hen]
        have hckl := cntK_le x q (rowK (tabR tb) x.div.toNat n)
        have hrkl := rowK_len (tabR tb) x.div.toNat n
        have hpb9 := (playsZ_B hpo n q).symm
        refine gl_nil <| gx_then <| gc_cond_t rfl <| gc_skip <| gx_then <| gc_seq <| gc_block <| gc_seq <| gc_drawP [0, 1, 2, 3, 4, 5] true 17 rfl <| ga_first 0 (bm 18 1) rfl rfl rfl rfl (by kernel_rfl) (by kernel_rfl) ⟨[0, 1, 2, 3, 4, 5], by decide, rfl⟩ (qt_rd (rd_move rfl)) ?_
        refine ga_first 1 (bm 18 3) rfl rfl rfl rfl (by kernel_rfl) (by kernel_rfl) ⟨[0, 1, 2, 3, 4, 5], by decide, rfl⟩ (qt_rd (rd_fieldAddr rfl (fa_56_1 _))) ?_
        refine ga_first 2 (bm 18 7) rfl rfl rfl rfl (by kernel_rfl) (by kernel_rfl) ⟨[0, 1, 2, 3, 4, 5], by decide, rfl⟩ (qt_rd (rd_load Tryz.underlying3 rfl rfl (by exact ld_blk 1 rfl rfl))) ?_
        refine ga_first 3 (bm 18 15) rfl rfl rfl rfl (by kernel_rfl) (by kernel_rfl) ⟨[0, 1, 2, 3, 4, 5], by decide, rfl⟩ (qt_rd (rd_indexOld1 hT5 Tryz.underlying78 ty_115 rfl rfl (by omega) (by omega))) ?_
        refine ga_first 4 (bm 18 31) rfl rfl rfl rfl (by kernel_rfl) (by kernel_rfl) ⟨[0, 1, 2, 3, 4, 5], by decide, rfl⟩ (qt_rd (rd_load Tryz.underlying115 rfl rfl (ld_slN hT5 (gsC_get hg5)))) ?_
        refine ga_first 5 (bm 18 63) rfl rfl rfl rfl (by kernel_rfl) (by kernel_rfl) ⟨[0, 1, 2, 3, 4, 5], by decide, rfl⟩ (qt_rd (rd_move rfl)) ?_
        refine ga_first 6 (bm 18 127) rfl rfl rfl rfl (by kernel_rfl) (by kernel_rfl) ⟨[0, 1, 2, 3, 4, 5], by decide, rfl⟩ (qt_rd (rd_indexOld hTrow Tryz.underlying115 ty_114 rfl rfl (by omega) (by omega))) ?_
        refine ga_first 7 (bm 18 255) rfl rfl rfl rfl (by kernel_rfl) (by kernel_rfl) ⟨[0, 1, 2, 3, 4, 5], by decide, rfl⟩ (qt_rd (rd_fieldAddr rfl (fa_114_0 _))) ?_
        refine ga_first 8 (bm 18 511) rfl rfl rfl rfl (by kernel_rfl) (by kernel_rfl) ⟨[0, 1, 2, 3, 4, 5], by decide, rfl⟩ (qt_rd (rd_load Tryz.underlying4 rfl rfl (ld_slf hTrow (get_flat ceC 4 (fun _ => rfl) hen (j := 0) (by decide) rfl)))) ?_
        refine gk_bool (fun h61 => ?_) (fun h61 => ?_)
        · refine ga_first 9 (bm 18 1023) rfl rfl rfl rfl (by kernel_rfl) (by kernel_rfl) ⟨[0, 1, 2, 3, 4, 5], by decide, rfl⟩ (qt_rd (rd_move rfl)) ?_
          refine ga_firstY 10 (bm 18 2047) rfl rfl rfl rfl rfl rfl (by kernel_rfl) (by kernel_rfl) ⟨[0, 1, 2, 3, 4, 5], by decide, rfl⟩ (qt_rd (rd_loadAgg Tryz.underlying56 rfl ty_56 rfl (by exact cs_blk 1 (off := 0) (k := 5) rfl rfl) rfl)) ?_
          refine ga_firstY 11 (bm 18 4095) rfl rfl rfl rfl rfl rfl (by kernel_rfl) (by kernel_rfl) ⟨[0, 1, 2, 3, 4, 5], by decide, rfl⟩ (qt_rd (rd_move rfl)) ?_
          refine ga_firstY 12 (bm 18 8191) rfl rfl rfl rfl rfl rfl (by kernel_rfl) (by kernel_rfl) ⟨[0, 1, 2, 3, 4, 5], by decide, rfl⟩ (qt_rd (rd_move rfl)) ?_
          refine ga_firstY 13 (bm 18 16383) rfl rfl rfl rfl rfl rfl (by kernel_rfl) (by kernel_rfl) ⟨[0, 1, 2, 3, 4, 5], by decide, rfl⟩ (qt_rd (rd_move rfl)) ?_
          refine ga_firstY 14 (bm 18 32767) rfl rfl rfl rfl rfl rfl (by kernel_rfl) (by kernel_rfl) ⟨[0, 1, 2, 3, 4, 5], by decide, rfl⟩ (qt_rd (rd_indexRow 3 rfl Tryz.underlying36 ty_69 rfl rfl (by omega) (by omega))) ?_
          refine ga_firstY 15 (bm 18 65535) rfl rfl rfl rfl rfl rfl (by kernel_rfl) (by kernel_rfl) ⟨[0, 1, 2, 3, 4, 5], by decide, rfl⟩ (qt_rd (rd_loadAgg Tryz.underlying69 rfl ty_69 rfl (cs_row 3 rfl (flat_drop_get plC 2 (fun _ => rfl) hq)) rfl)) ?_
          refine ga_onlyY 16 (bm 18 131071) rfl rfl rfl rfl (by kernel_rfl) (by kernel_rfl) (.inr ⟨[0, 1, 2, 3, 4, 5], by decide, rfl⟩) (op_call rfl (vf := []) (vc := []) rfl rfl Tryz.call45 (fun w1 ho => Plays_ok x n (q.1 : Int) (q.2 : Int) (by omega) hpb w1 ((hS.p x hxm).at ho)) ?_)
          rintro _ _ ⟨rfl, rfl⟩
          refine gk_bool (fun hpz => ?_) (fun hpz => ?_)
          · refine ga_first 17 (bm 18 262143) rfl rfl rfl rfl (by kernel_rfl) (by kernel_rfl) ⟨[0, 1, 2, 3, 4, 5], by decide, rfl⟩ (qt_rd (rd_pick_t rfl rfl)) ?_
            refine ga_end (by kernel_rfl) (.inr ⟨[0, 1, 2, 3, 4, 5], by decide, rfl⟩) ?_
            refine gx_then <| gc_cond_t rfl <| gc_region <| gl_op <| op_rd rfl (rd_move rfl) <| gl_op (op_rd rfl (by exact rd_addN (b := 1) rfl rfl (by omega)) ?_)
            refine gl_op <| op_rd rfl (rd_assign rfl) <| gl_nil <| gx_block <| gx_then <| gc_region <| gl_op <| op_rd rfl (rd_move rfl) <| gl_op (op_rd rfl (by exact rd_addN (b := 1) rfl rfl (by omega)) ?_)
            refine gl_op <| op_rd rfl (rd_assign rfl) <| gl_nil <| gx_then ?_
            rw [show (cntP s h j q + cntK x (rowK (tabR tb) x.div.toNat n) q) + 1 = (cntP s h j q + cntK x (rowK (tabR tb) x.div.toNat (n + 1)) q) by rw [rowK_snoc_t (by rw [tabR_isSome, hent]; exact h61), cntK_snoc, hpb9, hpz, Nat.add_assoc]; simp]
            exact gx_cut (n + 1) ⟨⟨by omega, by omega⟩, by omega⟩ ⟨rfl, rfl, rfl, rfl, rfl, rfl, rfl, rfl, rfl, rfl, rfl, trivial⟩ ⟨[0, 1, 2, 3, 4, 5], by decide, rfl⟩
          refine ga_first 17 (bm 18 262143) rfl rfl rfl rfl (by kernel_rfl) (by kernel_rfl) ⟨[0, 1, 2, 3, 4, 5], by decide, rfl⟩ (qt_rd (rd_pick_t rfl rfl)) ?_
          refine ga_end (by kernel_rfl) (.inr ⟨[0, 1, 2, 3, 4, 5], by decide, rfl⟩) ?_
          refine gx_then <| gc_cond_f rfl <| gc_skip <| gx_block <| gx_then <| gc_region <| gl_op <| op_rd rfl (rd_move rfl) <| gl_op (op_rd rfl (by exact rd_addN (b := 1) rfl rfl (by omega)) ?_)
          refine gl_op <| op_rd rfl (rd_assign rfl) <| gl_nil <| gx_then ?_
          rw [show (cntP s h j q + cntK x (rowK (tabR tb) x.div.toNat n) q) = (cntP s h j q + cntK x (rowK (tabR tb) x.div.toNat (n + 1)) q) by rw [rowK_snoc_t (by rw [tabR_isSome, hent]; exact h61), cntK_snoc, hpb9, hpz]; simp]
          exact gx_cut (n + 1) ⟨⟨by omega, by omega⟩, by omega⟩ ⟨rfl, rfl, rfl, rfl, rfl, rfl, rfl, rfl, rfl, rfl, rfl, trivial⟩ ⟨[0, 1, 2, 3, 4, 5], by decide, rfl⟩
        refine ga_first 9 (bm 18 1023) rfl rfl rfl rfl (by kernel_rfl) (by kernel_rfl) ⟨[0, 1, 2, 3, 4, 5], by decide, rfl⟩ (qt_rd (rd_move rfl)) ?_
        refine ga_firstN 10 (bm 18 2047) rfl rfl rfl rfl rfl rfl (by kernel_rfl) (by kernel_rfl) ⟨[0, 1, 2, 3, 4, 5], by decide, rfl⟩ ?_
        refine ga_firstN 11 (bm 18 4095) rfl rfl rfl rfl rfl rfl (by kernel_rfl) (by kernel_rfl) ⟨[0, 1, 2, 3, 4, 5], by decide, rfl⟩ ?_
        refine ga_firstN 12 (bm 18 8191) rfl rfl rfl rfl rfl rfl (by kernel_rfl) (by kernel_rfl) ⟨[0, 1, 2, 3, 4, 5], by decide, rfl⟩ ?_
        refine ga_firstN 13 (bm 18 16383) rfl rfl rfl rfl rfl rfl (by kernel_rfl) (by kernel_rfl) ⟨[0, 1, 2, 3, 4, 5], by decide, rfl⟩ ?_
        refine ga_firstN 14 (bm 18 32767) rfl rfl rfl rfl rfl rfl (by kernel_rfl) (by kernel_rfl) ⟨[0, 1, 2, 3, 4, 5], by decide, rfl⟩ ?_
        refine ga_firstN 15 (bm 18 65535) rfl rfl rfl rfl rfl rfl (by kernel_rfl) (by kernel_rfl) ⟨[0, 1, 2, 3, 4, 5], by decide, rfl⟩ ?_
        refine ga_firstN 16 (bm 18 131071) rfl rfl rfl rfl rfl rfl (by kernel_rfl) (by kernel_rfl) ⟨[0, 1, 2, 3, 4, 5], by decide, rfl⟩ ?_
        refine ga_first 17 (bm 18 262143) rfl rfl rfl rfl (by kernel_rfl) (by kernel_rfl) ⟨[0, 1, 2, 3, 4, 5], by decide, rfl⟩ (qt_rd (rd_pick_f rfl rfl)) ?_
        refine ga_end (by kernel_rfl) (.inr ⟨[0, 1, 2, 3, 4, 5], by decide, rfl⟩) ?_
        refine gx_then <| gc_cond_f rfl <| gc_skip <| gx_block <| gx_then <| gc_region <| gl_op <| op_rd rfl (rd_move rfl) <| gl_op (op_rd rfl (by exact rd_addN (b := 1) rfl rfl (by omega)) ?_)
        refine gl_op <| op_rd rfl (rd_assign rfl) <| gl_nil <| gx_then ?_
        rw [show (cntP s h j q + cntK x (rowK (tabR tb) x.div.toNat n) q) = (cntP s h j q + cntK x (rowK (tabR tb) x.div.toNat (n + 1)) q) by rw [rowK_snoc_f (by rw [tabR_isSome, hent]; exact h61)]]
        exact gx_cut (n + 1) ⟨⟨by omega, by omega⟩, by omega⟩ ⟨rfl, rfl, rfl, rfl, rfl, rfl, rfl, rfl, rfl, rfl, rfl, trivial⟩ ⟨[0, 1, 2, 3, 4, 5], by decide, rfl⟩
      have hn9 : n = hi + 1 := by omega
      subst hn9
      rw [show (cntP s h j q + cntK x (rowK (tabR tb) x.div.toNat (hi + 1)) q) = (cntP s h (j + 1) q) from by rw [cnt_high hA hch hdl (by rw [hdi]; omega) (by omega), ← hxs]; exact congrFun (cntP_next hi0) q]
      refine gl_nil <| gx_then <| gc_cond_f rfl <| gc_exit <| gx_then_exit <| gx_then_exit <| gx_block_exit <| gx_block <| gx_then <| gc_region <| gl_op <| op_rd rfl (rd_move rfl) <| gl_op (op_rd rfl (by exact rd_addN (b := 1) rfl rfl (by omega)) ?_)
      refine gl_op <| op_rd rfl (rd_assign rfl) <| gl_nil <| gx_then ?_
      exact gx_cut (j + 1) ⟨by omega, by omega⟩ ⟨rfl, rfl, rfl, rfl, rfl, rfl, rfl, rfl, trivial⟩ ⟨[2, 3, 4, 5], by decide, rfl⟩
    have hj9 : j = h.ss.length := by omega
    subst hj9
    have hcj := hcle h.ss.length
    refine gl_nil <| gx_then <| gc_cond_f rfl <| gc_exit <| gx_then_exit <| gx_then_exit <| gx_block_exit <| gx_then <| gc_seq <| gc_region <| gl_op <| op_rd rfl (rd_move rfl) <| gl_op (op_rd rfl (rd_gtr rfl rfl) (gk_dec (fun h74 => ?_) (fun h74 => ?_)))
    · refine gl_nil <| gx_then <| gc_cond_t rfl <| gc_region <| gl_op <| op_rd rfl (rd_move rfl) <| gl_op <| op_rd rfl (rd_move rfl) <| gl_op <| op_rd rfl (rd_move rfl) <| gl_op (op_rd rfl (rd_indexRow 1 rfl Tryz.underlying36 ty_69 rfl rfl (by omega) (by omega)) ?_)
      refine gl_op (op_rd rfl (rd_loadAgg Tryz.underlying69 rfl ty_69 rfl (cs_row 1 rfl (flat_drop_get plC 2 (fun _ => rfl) hq)) rfl) ?_)
      refine gl_op <| op_rd rfl (rd_move rfl) <| gl_op (op_rd rfl (rd_build rfl (fun _ => bd_81_0_1 _ _ _)) ?_)
      refine gl_op (op_buildSlice (sz := 3) rfl rfl (fun _ => bs_40_1_0 _ _ _) rfl rfl (fun b82 => ?_))
      refine gl_op (op_appendRow 1 0 Tryz.underlying40 ty_81 rfl (by decide) rfl rfl rfl rfl rfl (by simp [Value.oneCell']) (by omega) (by omega) (fun _ => (by rfl)) (fun r83 c83 => ?_))
      refine gl_op <| op_rd rfl (rd_assign rfl) <| gl_nil <| gx_block <| gx_then <| gc_region <| gl_op <| op_rd rfl (rd_move rfl) <| gl_op (op_rd rfl (by exact rd_addN (b := 1) rfl rfl (by omega)) ?_)
      refine gl_op <| op_rd rfl (rd_assign rfl) <| gl_nil <| gx_then ?_
      have hyes := rsD_yes (f := cntP s h h.ss.length) hq (by omega)
      rw [show (rsD s (cntP s h h.ss.length) k).length + 1 = (rsD s (cntP s h h.ss.length) (k + 1)).length by rw [hyes]; exact db_len _ _, show (rsD s (cntP s h h.ss.length) k).flatMap dbC ++ [natV q.1, natV q.2, natV (cntP s h h.ss.length q)] = (rsD s (cntP s h h.ss.length) (k + 1)).flatMap dbC by rw [hyes]; exact db_cells _ (q, _)]
      exact gx_cut ((k + 1, r83, c83)) ⟨by simp only; omega, by simp only; omega⟩ ⟨rfl, rfl, rfl, rfl, rfl, rfl, trivial⟩ ⟨[1, 2, 3, 4], by decide, rfl⟩
    refine gl_nil <| gx_then <| gc_cond_f rfl <| gc_skip <| gx_block <| gx_then <| gc_region <| gl_op <| op_rd rfl (rd_move rfl) <| gl_op (op_rd rfl (by exact rd_addN (b := 1) rfl rfl (by omega)) ?_)
    refine gl_op <| op_rd rfl (rd_assign rfl) <| gl_nil <| gx_then ?_
    rw [← rsD_no (f := cntP s h h.ss.length) hq (by omega)]
    exact gx_cut ((k + 1, r8, c8)) ⟨by simp only; omega, by simp only; omega⟩ ⟨rfl, rfl, rfl, rfl, rfl, rfl, trivial⟩ ⟨[0, 1, 2, 3], by decide, rfl⟩
  have hk9 : k = (allP s).length := by omega
  subst hk9
  refine gl_nil <| gx_then <| gc_cond_f rfl <| gc_exit <| gx_then_exit <| gx_then_exit <| gx_block_exit <| gx_then <| gc_seq <| gc_region <| gl_op <| op_rd rfl (rd_move rfl) <| gl_op <| op_rd rfl (rd_assign rfl) <| gl_nil <| gx_then <| gc_ret <| gx_ret1 (.inl rfl) Tryz.results28 rfl [0] (by decide) ?_
  exact ⟨r8, c8, rfl, rfl⟩
set_option maxRecDepth 100000 in
set_option maxHeartbeats 1000000 in
theorem rPipesH_ok (s : Org) (h : Hd) (hle : OrgLe s) (hhe : HdLe h) (w0 : World) (hS : OrgIn s w0 []) (hH : HdIn h w0 []) : Sp Tryz.prog 10 [s.val, h.val] w0 [] (PipesR 69 s h) := by
  refine spec_enter Tryz.func10 rfl Tryz.ntmps10 rfl (Own.refl _) ?_
  simp only [argEnv]
  refine gc_seq <| gc_region <| gl_op (op_box rfl rfl rfl (fun b2 => ?_))
  refine gl_op (op_box rfl rfl rfl (fun b3 => ?_))
  refine gl_op <| op_rd rfl (rd_assign rfl) <| gl_op <| op_rd rfl (rd_assign rfl) <| gl_nil <| gx_then <| gc_seq <| gc_region <| gl_op (op_rd rfl (rd_loadAgg Tryz.underlying27 rfl ty_27 rfl (by exact cs_blk 1 (off := 0) (k := 4) rfl rfl) rfl) ?_)
  refine gl_op (op_rd rfl (rd_loadAgg Tryz.underlying31 rfl ty_31 rfl (by exact cs_blk 0 (off := 0) (k := 3) rfl rfl) rfl) ?_)
  refine gl_op (op_call rfl (vf := []) (vc := []) rfl rfl Tryz.call27 (fun w1 ho => rChk_ok s h hle hhe w1 (hS.at ho) (hH.at ho)) ?_)
  rintro _ _ ⟨rfl, rfl⟩
  refine gl_op <| op_rd rfl (rd_assign rfl) <| gl_nil <| gx_then <| gc_seq <| gc_seq <| gc_region <| gl_op <| op_rd rfl (rd_move rfl) <| gl_op (op_rd rfl (rd_neq rfl rfl) (gk_dec (fun h14 => ?_) (fun h14 => ?_)))
  · refine gl_nil <| gx_then <| gc_cond_t rfl <| gc_seq <| gc_region <| gl_op <| op_rd rfl (rd_move rfl) <| gl_op <| op_rd rfl (rd_assign rfl) <| gl_op <| op_rd rfl (rd_assign rfl) <| gl_nil <| gx_then <| gc_ret <| gx_then_ret <| gx_ret2 (.inl rfl) Tryz.results10 rfl rfl [] (by decide) ?_
    exact .inl ⟨h14, rfl, rfl⟩
  obtain ⟨n, rfl, hg⟩ := good_of (s := s) hhe (by omega)
  have hH := HNIn.of hH
  simp only [HN.hd_val]
  have hA := hg.cx
  have hnr := hg.nr
  refine gl_nil <| gx_then <| gc_cond_f rfl <| gc_skip <| gx_then <| gc_seq <| gc_drawP [0, 1] true 6 rfl <| ga_first 0 (bm 7 1) rfl rfl rfl rfl (by kernel_rfl) (by kernel_rfl) ⟨[0, 1], by decide, rfl⟩ (qt_rd (rd_loadAgg Tryz.underlying27 rfl ty_27 rfl (by exact cs_blk 1 (off := 0) (k := 4) rfl rfl) rfl)) ?_
  refine ga_first 1 (bm 7 3) rfl rfl rfl rfl (by kernel_rfl) (by kernel_rfl) ⟨[0, 1], by decide, rfl⟩ (qt_rd (rd_loadAgg Tryz.underlying31 rfl ty_31 rfl (by exact cs_blk 0 (off := 0) (k := 3) rfl rfl) rfl)) ?_
  refine ga_first 2 (bm 7 7) rfl rfl rfl rfl (by kernel_rfl) (by kernel_rfl) ⟨[0, 1], by decide, rfl⟩ (qt_rd (rd_loadAgg Tryz.underlying27 rfl ty_27 rfl (by exact cs_blk 1 (off := 0) (k := 4) rfl rfl) rfl)) ?_
  refine ga_first 3 (bm 7 15) rfl rfl rfl rfl (by kernel_rfl) (by kernel_rfl) ⟨[0, 1], by decide, rfl⟩ (qt_rd (rd_loadAgg Tryz.underlying31 rfl ty_31 rfl (by exact cs_blk 0 (off := 0) (k := 3) rfl rfl) rfl)) ?_
  refine ga_only 4 (bm 7 31) rfl rfl (by kernel_rfl) (by kernel_rfl) (.inr ⟨[0, 1], by decide, rfl⟩) (op_call rfl (vf := []) (vc := []) rfl rfl Tryz.call29 (fun w1 ho => chains_ok s n hle hg w1 (hS.at ho) (hH.at ho)) ?_)
  rintro _ _ ⟨b5, gs, tb, TC, rfl, rfl, hgs, htb, hces, hch⟩
  unfold R5
  refine gk_mid [_] (TR gs tb ++ TC) [_, _] <| ga_only 5 (bm 7 63) rfl rfl (by kernel_rfl) (by kernel_rfl) (.inr ⟨[1, 2], by decide, rfl⟩) (op_call rfl (vf := []) (vc := []) rfl rfl Tryz.call28 (fun w1 ho => rSounds_ok s n hle hg b5 s.ds.length gs tb hgs htb hch w1 (hS.at ho) (hH.at ho) (ho.rowSl 0 rfl) (fun d g row h1 h2 => ho.memSl (List.mem_append_right [_, _, _] (List.mem_append_left _ (List.mem_of_getElem? (TR_get h1 h2)))))) ?_)
  rintro _ _ ⟨r21, c21, rfl, rfl⟩
  obtain ⟨D, hD⟩ : ∃ D, rsD s (cntP s n n.ss.length) (allP s).length = D := ⟨_, rfl⟩
  have hDl := rsD_len s (cntP s n n.ss.length) (allP s).length
  have hal := allK_len hg.spec s.rs.length (Nat.le_refl _)
  change (allP s).length ≤ _ at hal
  rw [hD] at hDl ⊢
  refine ga_first 6 (bm 7 127) rfl rfl rfl rfl (by kernel_rfl) (by kernel_rfl) ⟨[2, 3], by decide, rfl⟩ (qt_rd (rd_assign rfl)) ?_
  refine ga_end (by kernel_rfl) (.inr ⟨[2, 3], by decide, rfl⟩) ?_
  refine gx_then <| gc_seq <| gc_region <| gl_op <| op_rd rfl (rd_assign rfl) <| gl_nil <| gx_then <| gc_seq <| gc_seq <| gc_region <| gl_op <| op_rd rfl (rd_assign rfl) <| gl_nil <| gx_then <| gc_block <| gk_nil 69 2 <| gc_loopF (ι := Nat × Option Nat × Nat) [(7, _)] (_ :: _ :: _ :: _ :: (TR gs tb ++ TC)) (fun q => q.1 ≤ D.length) (fun q Fr0 => ((8, .slice (rowA q.2.1) (((D.take q.1).map (fun x : Db => x.1))).length q.2.2) :: (9, natV q.1) :: Fr0)) (fun q Fr0 => (.row 69 2 q.2.1 (((D.take q.1).map (fun x : Db => x.1))).length q.2.2 ((((D.take q.1).map (fun x : Db => x.1))).flatMap plC) :: Fr0)) (fun q => D.length - q.1) (0, none, 0) (Nat.zero_le _) ⟨rfl, rfl, rfl, trivial⟩ (sub_tail (A := [_, _, _, _, _]) (B := [_, _, _, _, _]) (T := (TR gs tb ++ TC)) [0, 1, 2, 3, 4] 5 (by decide) (by decide) rfl rfl) ?_
  rintro ⟨k, r8, c8⟩ hk
  simp only at hk ⊢
  have hpl : ((D.take k).map (fun x : Db => x.1)).length ≤ k := by rw [List.length_map, List.length_take]; omega
  refine gc_seq <| gc_seq <| gc_region <| gl_op <| op_rd rfl (rd_move rfl) <| gl_op <| op_rd rfl (rd_move rfl) <| gl_op <| op_rd rfl (rd_lenSlice Tryz.underlying40 rfl) <| gl_op (op_rd rfl (rd_lss rfl rfl) (gk_dec (fun h25 => ?_) (fun h25 => ?_)))
  · obtain ⟨x, hx⟩ := get_some (show k < D.length by omega)
    refine gl_nil <| gx_then <| gc_cond_t rfl <| gc_skip <| gx_then <| gc_seq <| gc_block <| gc_region <| gl_op <| op_rd rfl (rd_move rfl) <| gl_op <| op_rd rfl (rd_move rfl) <| gl_op <| op_rd rfl (rd_move rfl) <| gl_op (op_rd rfl (rd_indexRow 1 rfl Tryz.underlying40 ty_81 rfl rfl (by omega) (by omega)) ?_)
    refine gl_op <| op_rd rfl (rd_fieldAddr rfl (fa_81_0 _)) <| gl_op <| op_rd rfl (rd_loadAgg Tryz.underlying69 rfl ty_69 rfl (cs_row 1 rfl (db_pipe hx)) rfl) <| gl_op (op_buildSlice (sz := 2) rfl rfl (fun _ => bs_36_1_0 _ _) rfl rfl (fun b34 => ?_))
    refine gl_op (op_appendRow 1 0 Tryz.underlying36 ty_69 rfl (by decide) rfl rfl rfl rfl rfl (by simp [Value.oneCell']) (by omega) (by omega) (fun _ => (by rfl)) (fun r35 c35 => ?_))
    refine gl_op <| op_rd rfl (rd_assign rfl) <| gl_nil <| gx_block <| gx_then <| gc_region <| gl_op <| op_rd rfl (rd_move rfl) <| gl_op (op_rd rfl (by exact rd_addN (b := 1) rfl rfl (by omega)) ?_)
    refine gl_op <| op_rd rfl (rd_assign rfl) <| gl_nil <| gx_then ?_
    have hpk : ((D.take (k + 1)).map (fun x : Db => x.1)) = ((D.take k).map (fun x : Db => x.1)) ++ [x.1] := by rw [take_at hx, List.map_append]; rfl
    rw [show ((D.take k).map (fun x : Db => x.1)).length + 1 = ((D.take (k + 1)).map (fun x : Db => x.1)).length by rw [hpk]; exact pl_len _ _, show ((D.take k).map (fun x : Db => x.1)).flatMap plC ++ [natV x.1.1, natV x.1.2] = ((D.take (k + 1)).map (fun x : Db => x.1)).flatMap plC by rw [hpk]; exact pl_cells _ _]
    exact gx_cut ((k + 1, r35, c35)) ⟨by simp only; omega, by simp only; omega⟩ ⟨rfl, rfl, rfl, trivial⟩ (sub_tail (A := [_, _, _, _, _]) (B := [_, _, _, _, _, _]) (T := (TR gs tb ++ TC)) [1, 2, 3, 4, 5] 6 (by decide) (by decide) rfl rfl)
  have hk9 : k = D.length := by omega
  subst hk9
  rw [List.take_length, ← hD, rsD_pipes hg]
  refine gl_nil <| gx_then <| gc_cond_f rfl <| gc_exit <| gx_then_exit <| gx_then_exit <| gx_block_exit <| gx_then <| gc_seq <| gc_region <| gl_op <| op_rd rfl (rd_move rfl) <| gl_op <| op_rd rfl (rd_assign rfl) <| gl_op <| op_rd rfl (rd_assign rfl) <| gl_nil <| gx_then <| gc_ret <| gx_ret2S (.inl rfl) Tryz.results10 rfl rfl (sub_drop (A := [_]) (B := [_, _, _, _, _]) (T := (TR gs tb ++ TC)) [0] 5 (by decide) (by decide) rfl rfl) ?_
  exact .inr ⟨by omega, n, r8, c8, rfl, hg, rfl, rfl⟩
set_option maxRecDepth 100000 in
set_option maxHeartbeats 1000000 in
theorem without_ok (xs ys : List Pl) (a b : Option Addr) (ca cb : Nat) (hxl : xs.length ≤ 1000000) (hyl : ys.length ≤ 1000000) (w0 : World) (hx : OldSl w0 [] a xs.length 2 (xs.flatMap plC)) (hy : OldSl w0 [] b ys.length 2 (ys.flatMap plC)) : Sp Tryz.prog 31 [.slice a xs.length ca, .slice b ys.length cb] w0 [] (fun v L => ∃ r c, v = .slice (rowA r) (xs.filter (fun q => !decide (q ∈ ys))).length c ∧ L = [.row 69 2 r (xs.filter (fun q => !decide (q ∈ ys))).length c ((xs.filter (fun q => !decide (q ∈ ys))).flatMap plC)]) := by
  refine spec_enter Tryz.func31 rfl Tryz.ntmps31 rfl (Own.refl _) ?_
  simp only [argEnv]
  refine gc_seq <| gc_region <| gl_op <| op_rd rfl (rd_assign rfl) <| gl_nil <| gx_then <| gc_seq <| gc_region <| gl_op <| op_rd rfl (rd_assign rfl) <| gl_nil <| gx_then <| gc_seq <| gc_seq <| gc_region <| gl_op <| op_rd rfl (rd_assign rfl) <| gl_nil <| gx_then <| gc_block <| gk_nil 69 2 <| gc_loopF (ι := Nat × Option Nat × Nat) [(0, _), (1, _)] [] (fun q => q.1 ≤ xs.length) (fun q Fr0 => ((5, .slice (rowA q.2.1) (((xs.take q.1).filter (fun q => !decide (q ∈ ys)))).length q.2.2) :: (6, natV q.1) :: Fr0)) (fun q Fr0 => (.row 69 2 q.2.1 (((xs.take q.1).filter (fun q => !decide (q ∈ ys)))).length q.2.2 ((((xs.take q.1).filter (fun q => !decide (q ∈ ys)))).flatMap plC) :: Fr0)) (fun q => xs.length - q.1) (0, none, 0) (Nat.zero_le _) ⟨rfl, rfl, rfl, rfl, trivial⟩ ⟨[0], by decide, rfl⟩ ?_
  rintro ⟨k, r5, c5⟩ hk
  simp only at hk ⊢
  have hpl : ((xs.take k).filter (fun q => !decide (q ∈ ys))).length ≤ k := by have h1 := List.length_filter_le (fun q => !decide (q ∈ ys)) (xs.take k); rw [List.length_take] at h1; omega
  refine gc_seq <| gc_seq <| gc_region <| gl_op <| op_rd rfl (rd_move rfl) <| gl_op <| op_rd rfl (rd_move rfl) <| gl_op <| op_rd rfl (rd_lenSlice Tryz.underlying36 rfl) <| gl_op (op_rd rfl (rd_lss rfl rfl) (gk_dec (fun h12 => ?_) (fun h12 => ?_)))
  · obtain ⟨u, hu⟩ := get_some (show k < xs.length by omega)
    refine gl_nil <| gx_then <| gc_cond_t rfl <| gc_skip <| gx_then <| gc_seq <| gc_block <| gc_seq <| gc_region <| gl_op <| op_rd rfl (rd_assign rfl) <| gl_nil <| gx_then <| gc_seq <| gc_seq <| gc_region <| gl_op <| op_rd rfl (rd_assign rfl) <| gl_nil <| gx_then <| gc_block <| gc_loopF (ι := Nat) [(0, _), (1, _), (5, _), (6, _)] [_] (fun m => m ≤ ys.length) (fun m Fr0 => ((7, .bool (decide (u ∈ ys.take m))) :: (8, natV m) :: Fr0)) (fun m Fr0 => Fr0) (fun m => ys.length - m) 0 (Nat.zero_le _) ⟨rfl, rfl, rfl, rfl, rfl, rfl, trivial⟩ ⟨[0], by decide, rfl⟩ ?_
    rintro m hm
    refine gc_seq <| gc_seq <| gc_region <| gl_op <| op_rd rfl (rd_move rfl) <| gl_op <| op_rd rfl (rd_move rfl) <| gl_op <| op_rd rfl (rd_lenSlice Tryz.underlying36 rfl) <| gl_op (op_rd rfl (rd_lss rfl rfl) (gk_dec (fun h18 => ?_) (fun h18 => ?_)))
    · obtain ⟨v, hv⟩ := get_some (show m < ys.length by omega)
      refine gl_nil <| gx_then <| gc_cond_t rfl <| gc_skip <| gx_then <| gc_seq <| gc_block <| gc_drawP [0] true 12 rfl <| ga_first 0 (bm 13 1) rfl rfl rfl rfl (by kernel_rfl) (by kernel_rfl) ⟨[0], by decide, rfl⟩ (qt_rd (rd_move rfl)) ?_
      refine ga_first 1 (bm 13 3) rfl rfl rfl rfl (by kernel_rfl) (by kernel_rfl) ⟨[0], by decide, rfl⟩ (qt_rd (rd_move rfl)) ?_
      refine gk_bool (fun h22 => ?_) (fun h22 => ?_)
      · refine ga_firstN 2 (bm 13 7) rfl rfl rfl rfl rfl rfl (by kernel_rfl) (by kernel_rfl) ⟨[0], by decide, rfl⟩ ?_
        refine ga_firstN 3 (bm 13 15) rfl rfl rfl rfl rfl rfl (by kernel_rfl) (by kernel_rfl) ⟨[0], by decide, rfl⟩ ?_
        refine ga_firstN 4 (bm 13 31) rfl rfl rfl rfl rfl rfl (by kernel_rfl) (by kernel_rfl) ⟨[0], by decide, rfl⟩ ?_
        refine ga_firstN 5 (bm 13 63) rfl rfl rfl rfl rfl rfl (by kernel_rfl) (by kernel_rfl) ⟨[0], by decide, rfl⟩ ?_
        refine ga_firstN 6 (bm 13 127) rfl rfl rfl rfl rfl rfl (by kernel_rfl) (by kernel_rfl) ⟨[0], by decide, rfl⟩ ?_
        refine ga_firstN 7 (bm 13 255) rfl rfl rfl rfl rfl rfl (by kernel_rfl) (by kernel_rfl) ⟨[0], by decide, rfl⟩ ?_
        refine ga_firstN 8 (bm 13 511) rfl rfl rfl rfl rfl rfl (by kernel_rfl) (by kernel_rfl) ⟨[0], by decide, rfl⟩ ?_
        refine ga_firstN 9 (bm 13 1023) rfl rfl rfl rfl rfl rfl (by kernel_rfl) (by kernel_rfl) ⟨[0], by decide, rfl⟩ ?_
        refine ga_firstN 10 (bm 13 2047) rfl rfl rfl rfl rfl rfl (by kernel_rfl) (by kernel_rfl) ⟨[0], by decide, rfl⟩ ?_
        refine ga_first 11 (bm 13 4095) rfl rfl rfl rfl (by kernel_rfl) (by kernel_rfl) ⟨[0], by decide, rfl⟩ (qt_rd (rd_pick_t rfl rfl)) ?_
        refine ga_first 12 (bm 13 8191) rfl rfl rfl rfl (by kernel_rfl) (by kernel_rfl) ⟨[0], by decide, rfl⟩ (qt_rd (rd_assign rfl)) ?_
        refine ga_end (by kernel_rfl) (.inr ⟨[0], by decide, rfl⟩) ?_
        refine gx_block <| gx_then <| gc_region <| gl_op <| op_rd rfl (rd_move rfl) <| gl_op (op_rd rfl (by exact rd_addN (b := 1) rfl rfl (by omega)) ?_)
        refine gl_op <| op_rd rfl (rd_assign rfl) <| gl_nil <| gx_then ?_
        rw [show Value.bool true = .bool (decide (u ∈ ys.take (m + 1))) from congrArg Value.bool (by rw [memTake hv, h22]; rfl)]
        exact gx_cut (m + 1) ⟨by omega, by omega⟩ ⟨rfl, rfl, rfl, rfl, rfl, rfl, trivial⟩ ⟨[0], by decide, rfl⟩
      refine ga_firstY 2 (bm 13 7) rfl rfl rfl rfl rfl rfl (by kernel_rfl) (by kernel_rfl) ⟨[0], by decide, rfl⟩ (qt_rd (rd_move rfl)) ?_
      refine ga_firstY 3 (bm 13 15) rfl rfl rfl rfl rfl rfl (by kernel_rfl) (by kernel_rfl) ⟨[0], by decide, rfl⟩ (qt_rd (rd_move rfl)) ?_
      refine ga_firstY 4 (bm 13 31) rfl rfl rfl rfl rfl rfl (by kernel_rfl) (by kernel_rfl) ⟨[0], by decide, rfl⟩ (qt_rd (rd_indexOld hx Tryz.underlying36 ty_69 rfl rfl (by omega) (by omega))) ?_
      refine ga_firstY 5 (bm 13 63) rfl rfl rfl rfl rfl rfl (by kernel_rfl) (by kernel_rfl) ⟨[0], by decide, rfl⟩ (qt_rd (rd_loadAgg Tryz.underlying69 rfl ty_69 rfl (cs_slN hx (flat_drop_get plC 2 (fun _ => rfl) hu)) rfl)) ?_
      refine ga_firstY 6 (bm 13 127) rfl rfl rfl rfl rfl rfl (by kernel_rfl) (by kernel_rfl) ⟨[0], by decide, rfl⟩ (qt_rd (rd_move rfl)) ?_
      refine ga_firstY 7 (bm 13 255) rfl rfl rfl rfl rfl rfl (by kernel_rfl) (by kernel_rfl) ⟨[0], by decide, rfl⟩ (qt_rd (rd_move rfl)) ?_
      refine ga_firstY 8 (bm 13 511) rfl rfl rfl rfl rfl rfl (by kernel_rfl) (by kernel_rfl) ⟨[0], by decide, rfl⟩ (qt_rd (rd_indexOld hy Tryz.underlying36 ty_69 rfl rfl (by omega) (by omega))) ?_
      refine ga_firstY 9 (bm 13 1023) rfl rfl rfl rfl rfl rfl (by kernel_rfl) (by kernel_rfl) ⟨[0], by decide, rfl⟩ (qt_rd (rd_loadAgg Tryz.underlying69 rfl ty_69 rfl (cs_slN hy (flat_drop_get plC 2 (fun _ => rfl) hv)) rfl)) ?_
      refine ga_firstY 10 (bm 13 2047) rfl rfl rfl rfl rfl rfl (by kernel_rfl) (by kernel_rfl) ⟨[0], by decide, rfl⟩ (qt_rd (rd_eqlI2 (a := (u.1 : Int)) (b := (u.2 : Int)) (c := (v.1 : Int)) (d := (v.2 : Int)) i2_pipe (by kernel_rfl) rfl rfl)) ?_
      refine ga_first 11 (bm 13 4095) rfl rfl rfl rfl (by kernel_rfl) (by kernel_rfl) ⟨[0], by decide, rfl⟩ (qt_rd (rd_pick_f rfl rfl)) ?_
      refine ga_first 12 (bm 13 8191) rfl rfl rfl rfl (by kernel_rfl) (by kernel_rfl) ⟨[0], by decide, rfl⟩ (qt_rd (rd_assign rfl)) ?_
      refine ga_end (by kernel_rfl) (.inr ⟨[0], by decide, rfl⟩) ?_
      refine gx_block <| gx_then <| gc_region <| gl_op <| op_rd rfl (rd_move rfl) <| gl_op (op_rd rfl (by exact rd_addN (b := 1) rfl rfl (by omega)) ?_)
      refine gl_op <| op_rd rfl (rd_assign rfl) <| gl_nil <| gx_then ?_
      rw [show decide ((u.1 : Int) = v.1 ∧ (u.2 : Int) = v.2) = decide (u ∈ ys.take (m + 1)) by rw [memTake hv, h22, Bool.false_or]; exact decide_eq_decide.2 ⟨fun h => Prod.ext (by omega) (by omega), fun h => by subst h; exact ⟨rfl, rfl⟩⟩]
      exact gx_cut (m + 1) ⟨by omega, by omega⟩ ⟨rfl, rfl, rfl, rfl, rfl, rfl, trivial⟩ ⟨[0], by decide, rfl⟩
    have hm9 : m = ys.length := by omega
    subst hm9
    rw [List.take_length]
    refine gl_nil <| gx_then <| gc_cond_f rfl <| gc_exit <| gx_then_exit <| gx_then_exit <| gx_block_exit <| gx_then <| gc_seq <| gc_region <| gl_op <| op_rd rfl (rd_move rfl) <| gk_bool (fun h33 => ?_) (fun h33 => ?_)
    · refine gl_op <| op_rd rfl (rd_not rfl) <| gl_nil <| gx_then <| gc_cond_f rfl <| gc_skip <| gx_block <| gx_then <| gc_region <| gl_op <| op_rd rfl (rd_move rfl) <| gl_op (op_rd rfl (by exact rd_addN (b := 1) rfl rfl (by omega)) ?_)
      refine gl_op <| op_rd rfl (rd_assign rfl) <| gl_nil <| gx_then ?_
      rw [show ((xs.take k).filter (fun q => !decide (q ∈ ys))) = ((xs.take (k + 1)).filter (fun q => !decide (q ∈ ys))) by rw [take_at hu, List.filter_append, List.filter_cons, if_neg (by rw [h33]; simp)]; simp]
      exact gx_cut ((k + 1, r5, c5)) ⟨by simp only; omega, by simp only; omega⟩ ⟨rfl, rfl, rfl, rfl, trivial⟩ ⟨[0], by decide, rfl⟩
    refine gl_op <| op_rd rfl (rd_not rfl) <| gl_nil <| gx_then <| gc_cond_t rfl <| gc_region <| gl_op <| op_rd rfl (rd_move rfl) <| gl_op <| op_rd rfl (rd_move rfl) <| gl_op <| op_rd rfl (rd_move rfl) <| gl_op (op_rd rfl (rd_indexOld hx Tryz.underlying36 ty_69 rfl rfl (by omega) (by omega)) ?_)
    refine gl_op (op_rd rfl (rd_loadAgg Tryz.underlying69 rfl ty_69 rfl (cs_slN hx (flat_drop_get plC 2 (fun _ => rfl) hu)) rfl) ?_)
    refine gl_op (op_buildSlice (sz := 2) rfl rfl (fun _ => bs_36_1_0 _ _) rfl rfl (fun b40 => ?_))
    refine gl_op (op_appendRow 1 0 Tryz.underlying36 ty_69 rfl (by decide) rfl rfl rfl rfl rfl (by simp [Value.oneCell']) (by omega) (by omega) (fun _ => (by rfl)) (fun r41 c41 => ?_))
    refine gl_op <| op_rd rfl (rd_assign rfl) <| gl_nil <| gx_block <| gx_then <| gc_region <| gl_op <| op_rd rfl (rd_move rfl) <| gl_op (op_rd rfl (by exact rd_addN (b := 1) rfl rfl (by omega)) ?_)
    refine gl_op <| op_rd rfl (rd_assign rfl) <| gl_nil <| gx_then ?_
    have hpk : ((xs.take (k + 1)).filter (fun q => !decide (q ∈ ys))) = ((xs.take k).filter (fun q => !decide (q ∈ ys))) ++ [u] := by rw [take_at hu, List.filter_append, List.filter_cons, if_pos (by rw [h33]; rfl)]; rfl
    rw [show ((xs.take k).filter (fun q => !decide (q ∈ ys))).length + 1 = ((xs.take (k + 1)).filter (fun q => !decide (q ∈ ys))).length by rw [hpk]; exact pl_len _ _, show ((xs.take k).filter (fun q => !decide (q ∈ ys))).flatMap plC ++ [natV u.1, natV u.2] = ((xs.take (k + 1)).filter (fun q => !decide (q ∈ ys))).flatMap plC by rw [hpk]; exact pl_cells _ _]
    exact gx_cut ((k + 1, r41, c41)) ⟨by simp only; omega, by simp only; omega⟩ ⟨rfl, rfl, rfl, rfl, trivial⟩ ⟨[1], by decide, rfl⟩
  have hk9 : k = xs.length := by omega
  subst hk9
  rw [List.take_length]
  refine gl_nil <| gx_then <| gc_cond_f rfl <| gc_exit <| gx_then_exit <| gx_then_exit <| gx_block_exit <| gx_then <| gc_seq <| gc_region <| gl_op <| op_rd rfl (rd_move rfl) <| gl_op <| op_rd rfl (rd_assign rfl) <| gl_nil <| gx_then <| gc_ret <| gx_ret1 (.inl rfl) Tryz.results31 rfl [0] (by decide) ?_
  exact ⟨r5, c5, rfl, rfl⟩
set_option maxRecDepth 100000 in
set_option maxHeartbeats 1000000 in
theorem rChange_ok (s : Org) (m n : Hd) (hle : OrgLe s) (hhem : HdLe m) (hhen : HdLe n) (w0 : World) (hS : OrgIn s w0 []) (hHm : HdIn m w0 []) (hHn : HdIn n w0 []) : Sp Tryz.prog 16 [s.val, m.val, n.val] w0 [] (ChangeR 69 s m n) := by
  refine spec_enter Tryz.func16 rfl Tryz.ntmps16 rfl (Own.refl _) ?_
  simp only [argEnv]
  refine gc_seq <| gc_region <| gl_op (op_box rfl rfl rfl (fun b3 => ?_))
  refine gl_op (op_box rfl rfl rfl (fun b4 => ?_))
  refine gl_op (op_box rfl rfl rfl (fun b5 => ?_))
  refine gl_op <| op_rd rfl (rd_assign rfl) <| gl_op <| op_rd rfl (rd_assign rfl) <| gl_op <| op_rd rfl (rd_assign rfl) <| gl_nil <| gx_then <| gc_seq <| gc_region <| gl_op (op_rd rfl (rd_loadAgg Tryz.underlying27 rfl ty_27 rfl (by exact cs_blk 2 (off := 0) (k := 4) rfl rfl) rfl) ?_)
  refine gl_op (op_rd rfl (rd_loadAgg Tryz.underlying31 rfl ty_31 rfl (by exact cs_blk 1 (off := 0) (k := 3) rfl rfl) rfl) ?_)
  refine gl_op (op_call rfl (vf := []) (vc := []) rfl rfl Tryz.call10 (fun w1 ho => rPipesH_ok s m hle hhem w1 (hS.at ho) (hHm.at ho)) ?_)
  rintro _ _ (⟨he, rfl, rfl⟩ | ⟨he, m, r16, c16, rfl, hgm, rfl, rfl⟩)
  · refine gl_op <| op_rd rfl (rd_move rfl) <| gl_op <| op_rd rfl (rd_extract rfl rfl) <| gl_op <| op_rd rfl (rd_extract rfl rfl) <| gl_op <| op_rd rfl (rd_assign rfl) <| gl_op <| op_rd rfl (rd_assign rfl) <| gl_nil <| gx_then <| gc_seq <| gc_seq <| gc_region <| gl_op <| op_rd rfl (rd_move rfl) <| gl_op (op_rd rfl (rd_neq rfl rfl) (gk_dec (fun h20 => ?_) (fun h20 => ?_)))
    · refine gl_nil <| gx_then <| gc_cond_t rfl <| gc_seq <| gc_region <| gl_op <| op_rd rfl (rd_move rfl) <| gl_op <| op_rd rfl (rd_assign rfl) <| gl_op <| op_rd rfl (rd_assign rfl) <| gl_op <| op_rd rfl (rd_assign rfl) <| gl_nil <| gx_then <| gc_ret <| gx_then_ret <| gx_ret3 (.inl rfl) Tryz.results16 rfl rfl rfl [] (by decide) ?_
      exact .inl ⟨he, rfl, rfl⟩
    exact absurd he (by omega)
  have hnr := hgm.nr
  have hl1 := soundP_len s m
  refine gl_op <| op_rd rfl (rd_move rfl) <| gl_op <| op_rd rfl (rd_extract rfl rfl) <| gl_op <| op_rd rfl (rd_extract rfl rfl) <| gl_op <| op_rd rfl (rd_assign rfl) <| gl_op <| op_rd rfl (rd_assign rfl) <| gl_nil <| gx_then <| gc_seq <| gc_seq <| gc_region <| gl_op <| op_rd rfl (rd_move rfl) <| gl_op (op_rd rfl (rd_neq rfl rfl) (gk_dec (fun h20 => ?_) (fun h20 => ?_)))
  · exact absurd rfl h20
  refine gl_nil <| gx_then <| gc_cond_f rfl <| gc_skip <| gx_then <| gc_seq <| gc_region <| gl_op (op_rd rfl (rd_loadAgg Tryz.underlying27 rfl ty_27 rfl (by exact cs_blk 3 (off := 0) (k := 4) rfl rfl) rfl) ?_)
  refine gl_op (op_rd rfl (rd_loadAgg Tryz.underlying31 rfl ty_31 rfl (by exact cs_blk 1 (off := 0) (k := 3) rfl rfl) rfl) ?_)
  refine gl_op (op_call rfl (vf := []) (vc := []) rfl rfl Tryz.call10 (fun w1 ho => rPipesH_ok s n hle hhen w1 (hS.at ho) (hHn.at ho)) ?_)
  rintro _ _ (⟨he2, rfl, rfl⟩ | ⟨he2, n, r25, c25, rfl, hgn, rfl, rfl⟩)
  · refine gl_op <| op_rd rfl (rd_move rfl) <| gl_op <| op_rd rfl (rd_extract rfl rfl) <| gl_op <| op_rd rfl (rd_extract rfl rfl) <| gl_op <| op_rd rfl (rd_assign rfl) <| gl_op <| op_rd rfl (rd_assign rfl) <| gl_nil <| gx_then <| gc_seq <| gc_seq <| gc_region <| gl_op <| op_rd rfl (rd_move rfl) <| gl_op (op_rd rfl (rd_neq rfl rfl) (gk_dec (fun h29 => ?_) (fun h29 => ?_)))
    · refine gl_nil <| gx_then <| gc_cond_t rfl <| gc_seq <| gc_region <| gl_op <| op_rd rfl (rd_move rfl) <| gl_op <| op_rd rfl (rd_assign rfl) <| gl_op <| op_rd rfl (rd_assign rfl) <| gl_op <| op_rd rfl (rd_assign rfl) <| gl_nil <| gx_then <| gc_ret <| gx_then_ret <| gx_ret3 (.inl rfl) Tryz.results16 rfl rfl rfl [] (by decide) ?_
      exact .inr (.inl ⟨he, he2, rfl, rfl⟩)
    exact absurd he2 (by omega)
  have hl2 := soundP_len s n
  refine gl_op <| op_rd rfl (rd_move rfl) <| gl_op <| op_rd rfl (rd_extract rfl rfl) <| gl_op <| op_rd rfl (rd_extract rfl rfl) <| gl_op <| op_rd rfl (rd_assign rfl) <| gl_op <| op_rd rfl (rd_assign rfl) <| gl_nil <| gx_then <| gc_seq <| gc_seq <| gc_region <| gl_op <| op_rd rfl (rd_move rfl) <| gl_op (op_rd rfl (rd_neq rfl rfl) (gk_dec (fun h29 => ?_) (fun h29 => ?_)))
  · exact absurd rfl h29
  refine gl_nil <| gx_then <| gc_cond_f rfl <| gc_skip <| gx_then <| gc_seq <| gc_region <| gl_op <| op_rd rfl (rd_move rfl) <| gl_op <| op_rd rfl (rd_move rfl) <| gl_op (op_call rfl (vf := []) (vc := []) rfl rfl Tryz.call31 (fun w1 ho => without_ok (soundP s n) (soundP s m) _ _ _ _ (by omega) (by omega) w1 (ho.rowSl 0 rfl) (ho.rowSl 1 rfl)) ?_)
  rintro _ _ ⟨r33, c33, rfl, rfl⟩
  refine gl_op <| op_rd rfl (rd_move rfl) <| gl_op <| op_rd rfl (rd_move rfl) <| gl_op (op_call rfl (vf := []) (vc := []) rfl rfl Tryz.call31 (fun w1 ho => without_ok (soundP s m) (soundP s n) _ _ _ _ (by omega) (by omega) w1 (ho.rowSl 2 rfl) (ho.rowSl 1 rfl)) ?_)
  rintro _ _ ⟨r36, c36, rfl, rfl⟩
  refine gl_op <| op_rd rfl (rd_assign rfl) <| gl_op <| op_rd rfl (rd_assign rfl) <| gl_op <| op_rd rfl (rd_assign rfl) <| gl_nil <| gx_then <| gc_ret <| gx_ret3 (.inl rfl) Tryz.results16 rfl rfl rfl [1, 0] (by decide) ?_
  exact .inr (.inr ⟨he, he2, m, n, r33, r36, c33, c36, rfl, rfl, hgm, hgn, rfl, rfl⟩)
end Go.Proofs.YtbjijbbkfgcleaaGreatDoor
namespace Go.Proofs.YtbjijbbkfgcleaaGreatDoor
open Go.Gv
open Go.RowKit
open Go.Sn
open Sx
namespace Sx
theorem setC_put {X Y k : Nat} (hk : k < 2) : (setC (wD X Y k)).set k (.int .u64 ((andn (wordOf X k) (wordOf Y k) : Nat) : Int)) = setC (wD X Y (k + 1)) := by
  rcases (show k = 0 ∨ k = 1 by omega) with rfl | rfl
  · unfold setC
    rw [wD_lo, wD_hi, wD_lo, wD_hi, if_neg (by omega), if_neg (by omega), if_pos (by omega), if_neg (by omega)]; rfl
  · unfold setC
    rw [wD_lo, wD_hi, wD_lo, wD_hi, if_pos (by omega), if_neg (by omega), if_pos (by omega), if_pos (by omega)]; rfl
theorem word_at {zs : List Nat} {i k Z W : Nat} (h : zs[i]? = some Z) (hk : k < 2) (hw : wordOf Z k = W) : (zs.flatMap setC)[i * 2 + k]? = some (.int .u64 ((W : Nat) : Int)) := by
  rw [get_flat setC 2 (fun _ => rfl) h (j := k) hk (setC_at _ k hk), hw]
end Sx
open Sx
set_option maxRecDepth 100000 in
set_option maxHeartbeats 1000000 in
theorem Change_ok (s : Org) (m n : Hd) (hle : OrgLe s) (hhem : HdLe m) (hhen : HdLe n) (w0 : World) (hS : OrgIn s w0 []) (hHm : HdIn m w0 []) (hHn : HdIn n w0 []) (hT : TabIn w0) : Sp Tryz.prog 15 [s.val, m.val, n.val] w0 [] (ChangeR 69 s m n) := by
  refine spec_enter Tryz.func15 rfl Tryz.ntmps15 rfl (Own.refl _) ?_
  simp only [argEnv]
  refine gc_seq <| gc_region <| gl_op (op_box rfl rfl rfl (fun b3 => ?_))
  refine gl_op (op_box rfl rfl rfl (fun b4 => ?_))
  refine gl_op (op_box rfl rfl rfl (fun b5 => ?_))
  refine gl_op <| op_rd rfl (rd_assign rfl) <| gl_op <| op_rd rfl (rd_assign rfl) <| gl_op <| op_rd rfl (rd_assign rfl) <| gl_nil <| gx_then <| gc_seq <| gc_seq <| gc_region <| gl_op (op_rd rfl (rd_loadAgg Tryz.underlying27 rfl ty_27 rfl (by exact cs_blk 2 (off := 0) (k := 4) rfl rfl) rfl) ?_)
  refine gl_op (op_rd rfl (rd_loadAgg Tryz.underlying31 rfl ty_31 rfl (by exact cs_blk 1 (off := 0) (k := 3) rfl rfl) rfl) ?_)
  refine gl_op (op_call rfl (vf := []) (vc := []) rfl rfl Tryz.call24 (fun w1 ho => Check_ok s m hle hhem w1 (hS.at ho) (hHm.at ho)) ?_)
  rintro _ _ ⟨rfl, rfl⟩
  refine gl_op <| op_rd rfl (rd_assign rfl) <| gl_nil <| gx_then <| gc_seq <| gc_region <| gl_op <| op_rd rfl (rd_move rfl) <| gl_op (op_rd rfl (rd_neq rfl rfl) (gk_dec (fun h19 => ?_) (fun h19 => ?_)))
  · refine gl_nil <| gx_then <| gc_cond_t rfl <| gc_seq <| gc_region <| gl_op <| op_rd rfl (rd_move rfl) <| gl_op <| op_rd rfl (rd_assign rfl) <| gl_op <| op_rd rfl (rd_assign rfl) <| gl_op <| op_rd rfl (rd_assign rfl) <| gl_nil <| gx_then <| gc_ret <| gx_then_ret <| gx_ret3 (.inl rfl) Tryz.results15 rfl rfl rfl [] (by decide) ?_
    exact .inl ⟨h19, rfl, rfl⟩
  refine gl_nil <| gx_then <| gc_cond_f rfl <| gc_skip <| gx_then <| gc_seq <| gc_seq <| gc_region <| gl_op (op_rd rfl (rd_loadAgg Tryz.underlying27 rfl ty_27 rfl (by exact cs_blk 2 (off := 0) (k := 4) rfl rfl) rfl) ?_)
  refine gl_op (op_rd rfl (rd_loadAgg Tryz.underlying31 rfl ty_31 rfl (by exact cs_blk 0 (off := 0) (k := 3) rfl rfl) rfl) ?_)
  refine gl_op (op_call rfl (vf := []) (vc := []) rfl rfl Tryz.call24 (fun w1 ho => Check_ok s n hle hhen w1 (hS.at ho) (hHn.at ho)) ?_)
  rintro _ _ ⟨rfl, rfl⟩
  refine gl_op <| op_rd rfl (rd_assign rfl) <| gl_nil <| gx_then <| gc_seq <| gc_region <| gl_op <| op_rd rfl (rd_move rfl) <| gl_op (op_rd rfl (rd_neq rfl rfl) (gk_dec (fun h25 => ?_) (fun h25 => ?_)))
  · refine gl_nil <| gx_then <| gc_cond_t rfl <| gc_seq <| gc_region <| gl_op <| op_rd rfl (rd_move rfl) <| gl_op <| op_rd rfl (rd_assign rfl) <| gl_op <| op_rd rfl (rd_assign rfl) <| gl_op <| op_rd rfl (rd_assign rfl) <| gl_nil <| gx_then <| gc_ret <| gx_then_ret <| gx_ret3 (.inl rfl) Tryz.results15 rfl rfl rfl [] (by decide) ?_
    exact .inr (.inl ⟨by omega, h25, rfl, rfl⟩)
  have hem : handErr s m = 0 := by omega
  have hen : handErr s n = 0 := by omega
  obtain ⟨m, rfl, hgm⟩ := good_of (s := s) hhem hem
  obtain ⟨n, rfl, hgn⟩ := good_of (s := s) hhen hen
  have hNm := HNIn.of hHm
  have hNn := HNIn.of hHn
  simp only [HN.hd_val]
  have hnr := hgm.nr
  refine gl_nil <| gx_then <| gc_cond_f rfl <| gc_skip <| gx_then <| gc_seq <| gc_drawP [0, 1, 2] true 7 rfl <| ga_first 0 (bm 8 1) rfl rfl rfl rfl (by kernel_rfl) (by kernel_rfl) ⟨[0, 1, 2], by decide, rfl⟩ (qt_rd (rd_loadAgg Tryz.underlying27 rfl ty_27 rfl (by exact cs_blk 2 (off := 0) (k := 4) rfl rfl) rfl)) ?_
  refine ga_first 1 (bm 8 3) rfl rfl rfl rfl (by kernel_rfl) (by kernel_rfl) ⟨[0, 1, 2], by decide, rfl⟩ (qt_rd (rd_loadAgg Tryz.underlying31 rfl ty_31 rfl (by exact cs_blk 1 (off := 0) (k := 3) rfl rfl) rfl)) ?_
  refine ga_first 3 (bm 8 11) rfl rfl rfl rfl (by kernel_rfl) (by kernel_rfl) ⟨[0, 1, 2], by decide, rfl⟩ (qt_rd (rd_loadAgg Tryz.underlying27 rfl ty_27 rfl (by exact cs_blk 2 (off := 0) (k := 4) rfl rfl) rfl)) ?_
  refine ga_first 4 (bm 8 27) rfl rfl rfl rfl (by kernel_rfl) (by kernel_rfl) ⟨[0, 1, 2], by decide, rfl⟩ (qt_rd (rd_loadAgg Tryz.underlying31 rfl ty_31 rfl (by exact cs_blk 0 (off := 0) (k := 3) rfl rfl) rfl)) ?_
  refine ga_only 2 (bm 8 31) rfl rfl (by kernel_rfl) (by kernel_rfl) (.inr ⟨[0, 1, 2], by decide, rfl⟩) (op_call rfl (vf := []) (vc := []) rfl rfl Tryz.call26 (fun w1 ho => sounds_ok s m hle hgm w1 (hS.at ho) (hNm.at ho) (hT.at ho (by decide))) ?_)
  rintro _ _ ⟨b29, xs, rfl, rfl, hux⟩
  have hxl := hux.len
  refine ga_only 5 (bm 8 63) rfl rfl (by kernel_rfl) (by kernel_rfl) (.inr ⟨[1, 2, 3], by decide, rfl⟩) (op_call rfl (vf := []) (vc := []) rfl rfl Tryz.call26 (fun w1 ho => sounds_ok s n hle hgn w1 (hS.at ho) (hNn.at ho) (hT.at ho (by decide))) ?_)
  rintro _ _ ⟨b32, ys, rfl, rfl, huy⟩
  have hyl := huy.len
  refine ga_first 6 (bm 8 127) rfl rfl rfl rfl (by kernel_rfl) (by kernel_rfl) ⟨[2, 3, 4], by decide, rfl⟩ (qt_rd (rd_assign rfl)) ?_
  refine ga_first 7 (bm 8 255) rfl rfl rfl rfl (by kernel_rfl) (by kernel_rfl) ⟨[2, 3, 4], by decide, rfl⟩ (qt_rd (rd_assign rfl)) ?_
  refine ga_end (by kernel_rfl) (.inr ⟨[2, 3, 4], by decide, rfl⟩) ?_
  refine gx_then <| gc_seq <| gc_seq <| gc_region <| gl_op <| op_rd rfl (rd_move rfl) <| gl_op <| op_rd rfl (rd_lenSlice Tryz.underlying75 rfl) <| gl_op <| op_rd rfl (rd_move rfl) <| gl_nil <| gx_then <| gc_block ?_
  rw [show xs.flatMap setC = (chg xs ys 0 0).flatMap setC by rw [chg_zero], show ys.flatMap setC = (chg ys xs 0 0).flatMap setC by rw [chg_zero]]
  refine gc_loopF (ι := Nat) [(11, _), (12, _), (34, _)] [_, _, _] (fun i => i ≤ s.rs.length) (fun i Fr0 => ((35, natV i) :: Fr0)) (fun i Fr0 => (.row 87 2 (some b29) s.rs.length s.rs.length ((chg xs ys i 0).flatMap setC) :: .row 87 2 (some b32) s.rs.length s.rs.length ((chg ys xs i 0).flatMap setC) :: Fr0)) (fun i => s.rs.length - i) 0 (Nat.zero_le _) ⟨rfl, rfl, rfl, rfl, trivial⟩ ⟨[1, 0, 2, 3, 4], by decide, rfl⟩ ?_
  rintro i hi
  refine gc_seq <| gc_region <| gl_op (op_rd rfl (rd_lss rfl rfl) (gk_dec (fun h36 => ?_) (fun h36 => ?_)))
  · have hX := huy.lt
    have hXx := hux.lt
    obtain ⟨X, hXd⟩ : ∃ X, xs.getD i 0 = X := ⟨_, rfl⟩
    obtain ⟨Y, hYd⟩ : ∃ Y, ys.getD i 0 = Y := ⟨_, rfl⟩
    have hXl : X < 2 ^ 128 := by rw [← hXd]; exact getD_lt hux.lt i
    have hYl : Y < 2 ^ 128 := by rw [← hYd]; exact getD_lt huy.lt i
    refine gl_nil <| gx_then <| gc_seq <| gc_cond_t rfl <| gc_skip <| gx_then <| gc_seq <| gc_block <| gc_seq <| gc_region <| gl_op <| op_rd rfl (rd_move rfl) <| gl_op <| op_rd rfl (rd_assign rfl) <| gl_nil <| gx_then <| gc_seq <| gc_region <| gl_op <| op_rd rfl (rd_move rfl) <| gl_nil <| gx_then <| gc_block <| gc_loopF (ι := Nat) [(11, _), (12, _), (13, _), (34, _), (35, _)] [_, _, _] (fun k => k ≤ 2) (fun k Fr0 => ((38, natV k) :: Fr0)) (fun k Fr0 => (.row 87 2 (some b29) s.rs.length s.rs.length ((chg xs ys i k).flatMap setC) :: .row 87 2 (some b32) s.rs.length s.rs.length ((chg ys xs i k).flatMap setC) :: Fr0)) (fun k => 2 - k) 0 (Nat.zero_le _) ⟨rfl, rfl, rfl, rfl, rfl, rfl, trivial⟩ ⟨[0, 1, 2, 3, 4], by decide, rfl⟩ ?_
    rintro k hk
    refine gc_seq <| gc_region <| gl_op (op_rd rfl (rd_lss rfl rfl) (gk_dec (fun h39 => ?_) (fun h39 => ?_)))
    · have hgx := chg_get (xs := xs) (ys := ys) (k := k) (show i < xs.length by omega)
      have hgy := chg_get (xs := ys) (ys := xs) (k := k) (show i < ys.length by omega)
      rw [hXd, hYd] at hgx hgy
      have hwx : wordOf (wD X Y k) k = wordOf X k := wD_word (by omega)
      have hwy : wordOf (wD Y X k) k = wordOf Y k := wD_word (by omega)
      have hxlt := wordOf_lt (i := k) hXl
      have hylt := wordOf_lt (i := k) hYl
      refine gl_nil <| gx_then <| gc_seq <| gc_cond_t rfl <| gc_skip <| gx_then <| gc_seq <| gc_block <| gc_seq <| gc_region <| gl_op <| op_rd rfl (rd_move rfl) <| gl_op <| op_rd rfl (rd_assign rfl) <| gl_nil <| gx_then <| gc_drawP [0, 1, 2, 3, 4] false 34 rfl <| ga_first 0 (bm 38 1) rfl rfl rfl rfl (by kernel_rfl) (by kernel_rfl) ⟨[0, 1, 2, 3, 4], by decide, rfl⟩ (qt_rd (rd_move rfl)) ?_
      refine ga_first 1 (bm 38 3) rfl rfl rfl rfl (by kernel_rfl) (by kernel_rfl) ⟨[0, 1, 2, 3, 4], by decide, rfl⟩ (qt_rd (rd_move rfl)) ?_
      refine ga_first 2 (bm 38 7) rfl rfl rfl rfl (by kernel_rfl) (by kernel_rfl) ⟨[0, 1, 2, 3, 4], by decide, rfl⟩ (qt_rd (rd_move rfl)) ?_
      refine ga_first 6 (bm 38 71) rfl rfl rfl rfl (by kernel_rfl) (by kernel_rfl) ⟨[0, 1, 2, 3, 4], by decide, rfl⟩ (qt_rd (rd_move rfl)) ?_
      refine ga_first 7 (bm 38 199) rfl rfl rfl rfl (by kernel_rfl) (by kernel_rfl) ⟨[0, 1, 2, 3, 4], by decide, rfl⟩ (qt_rd (rd_move rfl)) ?_
      refine ga_first 8 (bm 38 455) rfl rfl rfl rfl (by kernel_rfl) (by kernel_rfl) ⟨[0, 1, 2, 3, 4], by decide, rfl⟩ (qt_rd (rd_move rfl)) ?_
      refine ga_first 9 (bm 38 967) rfl rfl rfl rfl (by kernel_rfl) (by kernel_rfl) ⟨[0, 1, 2, 3, 4], by decide, rfl⟩ (qt_rd (rd_indexS Tryz.underlying75 ty_87 rfl rfl (by omega) (by omega))) ?_
      refine ga_first 10 (bm 38 1991) rfl rfl rfl rfl (by kernel_rfl) (by kernel_rfl) ⟨[0, 1, 2, 3, 4], by decide, rfl⟩ (qt_rd (rd_indexArrN Tryz.underlying87 ty_85 rfl rfl (by omega))) ?_
      refine ga_first 11 (bm 38 4039) rfl rfl rfl rfl (by kernel_rfl) (by kernel_rfl) ⟨[0, 1, 2, 3, 4], by decide, rfl⟩ (qt_rd (rd_load Tryz.underlying85 rfl rfl (ld_row 0 (a := some b29) rfl (word_at hgx (by omega) hwx)))) ?_
      refine ga_first 12 (bm 38 8135) rfl rfl rfl rfl (by kernel_rfl) (by kernel_rfl) ⟨[0, 1, 2, 3, 4], by decide, rfl⟩ (qt_rd (rd_move rfl)) ?_
      refine ga_first 13 (bm 38 16327) rfl rfl rfl rfl (by kernel_rfl) (by kernel_rfl) ⟨[0, 1, 2, 3, 4], by decide, rfl⟩ (qt_rd (rd_move rfl)) ?_
      refine ga_first 14 (bm 38 32711) rfl rfl rfl rfl (by kernel_rfl) (by kernel_rfl) ⟨[0, 1, 2, 3, 4], by decide, rfl⟩ (qt_rd (rd_move rfl)) ?_
      refine ga_first 15 (bm 38 65479) rfl rfl rfl rfl (by kernel_rfl) (by kernel_rfl) ⟨[0, 1, 2, 3, 4], by decide, rfl⟩ (qt_rd (rd_indexS Tryz.underlying75 ty_87 rfl rfl (by omega) (by omega))) ?_
      refine ga_first 16 (bm 38 131015) rfl rfl rfl rfl (by kernel_rfl) (by kernel_rfl) ⟨[0, 1, 2, 3, 4], by decide, rfl⟩ (qt_rd (rd_indexArrN Tryz.underlying87 ty_85 rfl rfl (by omega))) ?_
      refine ga_first 17 (bm 38 262087) rfl rfl rfl rfl (by kernel_rfl) (by kernel_rfl) ⟨[0, 1, 2, 3, 4], by decide, rfl⟩ (qt_rd (rd_load Tryz.underlying85 rfl rfl (ld_row 1 (a := some b32) rfl (word_at hgy (by omega) hwy)))) ?_
      refine ga_first 18 (bm 38 524231) rfl rfl rfl rfl (by kernel_rfl) (by kernel_rfl) ⟨[0, 1, 2, 3, 4], by decide, rfl⟩ (qt_rd (rd_andNotU (a := wordOf X k) (b := wordOf Y k) (c := andn (wordOf X k) (wordOf Y k)) rfl rfl hxlt hylt rfl)) ?_
      refine ga_firstT 3 (bm 38 524239) rfl rfl rfl rfl (by kernel_rfl) (by kernel_rfl) (fun _ => rd_move rfl) ?_
      refine ga_firstT 4 (bm 38 524255) rfl rfl rfl rfl (by kernel_rfl) (by kernel_rfl) (fun _ => rd_move rfl) ?_
      refine ga_firstT 5 (bm 38 524287) rfl rfl rfl rfl (by kernel_rfl) (by kernel_rfl) (fun _ => rd_move rfl) ?_
      refine ga_firstT 19 (bm 38 1048575) rfl rfl rfl rfl (by kernel_rfl) (by kernel_rfl) (fun _ => rd_move rfl) ?_
      refine ga_firstT 20 (bm 38 2097151) rfl rfl rfl rfl (by kernel_rfl) (by kernel_rfl) (fun _ => rd_move rfl) ?_
      refine ga_firstT 21 (bm 38 4194303) rfl rfl rfl rfl (by kernel_rfl) (by kernel_rfl) (fun _ => rd_move rfl) ?_
      refine ga_firstT 22 (bm 38 8388607) rfl rfl rfl rfl (by kernel_rfl) (by kernel_rfl) (fun _ => rd_indexS Tryz.underlying75 ty_87 rfl rfl (by omega) (by omega)) ?_
      refine ga_firstT 23 (bm 38 16777215) rfl rfl rfl rfl (by kernel_rfl) (by kernel_rfl) (fun _ => rd_indexArrN Tryz.underlying87 ty_85 rfl rfl (by omega)) ?_
      refine ga_first 24 (bm 38 33554431) rfl rfl rfl rfl (by kernel_rfl) (by kernel_rfl) ⟨[0, 1, 2, 3, 4], by decide, rfl⟩ (qt_rd (rd_load Tryz.underlying85 rfl rfl (ld_row 1 (a := some b32) rfl (word_at hgy (by omega) hwy)))) ?_
      refine ga_firstT 25 (bm 38 67108863) rfl rfl rfl rfl (by kernel_rfl) (by kernel_rfl) (fun _ => rd_move rfl) ?_
      refine ga_firstT 26 (bm 38 134217727) rfl rfl rfl rfl (by kernel_rfl) (by kernel_rfl) (fun _ => rd_move rfl) ?_
      refine ga_firstT 27 (bm 38 268435455) rfl rfl rfl rfl (by kernel_rfl) (by kernel_rfl) (fun _ => rd_move rfl) ?_
      refine ga_firstT 28 (bm 38 536870911) rfl rfl rfl rfl (by kernel_rfl) (by kernel_rfl) (fun _ => rd_indexS Tryz.underlying75 ty_87 rfl rfl (by omega) (by omega)) ?_
      refine ga_firstT 29 (bm 38 1073741823) rfl rfl rfl rfl (by kernel_rfl) (by kernel_rfl) (fun _ => rd_indexArrN Tryz.underlying87 ty_85 rfl rfl (by omega)) ?_
      refine ga_first 30 (bm 38 2147483647) rfl rfl rfl rfl (by kernel_rfl) (by kernel_rfl) ⟨[0, 1, 2, 3, 4], by decide, rfl⟩ (qt_rd (rd_load Tryz.underlying85 rfl rfl (ld_row 0 (a := some b29) rfl (word_at hgx (by omega) hwx)))) ?_
      refine ga_firstT 31 (bm 38 4294967295) rfl rfl rfl rfl (by kernel_rfl) (by kernel_rfl) (fun _ => rd_andNotU (a := wordOf Y k) (b := wordOf X k) (c := andn (wordOf Y k) (wordOf X k)) rfl rfl hylt hxlt rfl) ?_
      refine ga_firstT 32 (bm 38 8589934591) rfl rfl rfl rfl (by kernel_rfl) (by kernel_rfl) (fun _ => rd_indexS Tryz.underlying75 ty_87 rfl rfl (by omega) (by omega)) ?_
      refine ga_first 33 (bm 38 17179869183) rfl rfl rfl rfl (by kernel_rfl) (by kernel_rfl) ⟨[0, 1, 2, 3, 4], by decide, rfl⟩ (qt_rd (rd_indexArrN Tryz.underlying87 ty_85 rfl rfl (by omega))) ?_
      refine ga_firstT 35 (bm 38 51539607551) rfl rfl rfl rfl (by kernel_rfl) (by kernel_rfl) (fun _ => rd_indexS Tryz.underlying75 ty_87 rfl rfl (by omega) (by omega)) ?_
      refine ga_only 34 (bm 38 68719476735) rfl rfl (by kernel_rfl) (by kernel_rfl) (.inr ⟨[0, 1, 2, 3, 4], by decide, rfl⟩) (op_storeRowE 0 ty_85 rfl rfl rfl rfl (by rw [flat_len setC 2 (fun _ => rfl), chg_len]; omega) (show ((chg xs ys i k).flatMap setC).set (i * 2 + k) _ = (chg xs ys i (k + 1)).flatMap setC from by rw [flat_setOne setC 2 (fun _ => rfl) (by omega) _ i _ _ hgx (setC_put (by omega)), chg_set (by omega) (by rw [hXd, hYd])]) (by rfl) ?_)
      refine ga_only 36 (bm 38 137438953471) rfl rfl (by kernel_rfl) (by kernel_rfl) (.inl (by kernel_rfl)) (op_rd rfl (rd_indexArrN Tryz.underlying87 ty_85 rfl rfl (by omega)) ?_)
      refine ga_only 37 (bm 38 274877906943) rfl rfl (by kernel_rfl) (by kernel_rfl) (.inl (by kernel_rfl)) (op_storeRowE 1 ty_85 rfl rfl rfl rfl (by rw [flat_len setC 2 (fun _ => rfl), chg_len]; omega) (show ((chg ys xs i k).flatMap setC).set (i * 2 + k) _ = (chg ys xs i (k + 1)).flatMap setC from by rw [flat_setOne setC 2 (fun _ => rfl) (by omega) _ i _ _ hgy (setC_put (by omega)), chg_set (by omega) (by rw [hXd, hYd])]) (by rfl) ?_)
      refine ga_end (by kernel_rfl) (.inl (by kernel_rfl)) ?_
      refine gx_block <| gx_then <| gc_region <| gl_op (op_rd rfl (by exact rd_addN (b := 1) rfl rfl (by omega)) ?_)
      refine gl_op <| op_rd rfl (rd_move rfl) <| gl_nil <| gx_then ?_
      exact gx_cut (k + 1) ⟨by omega, by omega⟩ ⟨rfl, rfl, rfl, rfl, rfl, rfl, trivial⟩ ⟨[0, 1, 2, 3, 4], by decide, rfl⟩
    have hk9 : k = 2 := by omega
    subst hk9
    rw [chg_next, chg_next]
    refine gl_nil <| gx_then <| gc_seq <| gc_cond_f rfl <| gc_exit <| gx_then_exit <| gx_then_exit <| gx_block_exit <| gx_block <| gx_then <| gc_region <| gl_op (op_rd rfl (by exact rd_addN (b := 1) rfl rfl (by omega)) ?_)
    refine gl_op <| op_rd rfl (rd_move rfl) <| gl_nil <| gx_then ?_
    exact gx_cut (i + 1) ⟨by omega, by omega⟩ ⟨rfl, rfl, rfl, rfl, trivial⟩ ⟨[0, 1, 2, 3, 4], by decide, rfl⟩
  refine gl_nil <| gx_then <| gc_seq <| gc_cond_f rfl <| gc_exit <| gx_then_exit <| gx_then_exit <| gx_block_exit <| gx_then <| gc_seq ?_
  have hi9 : i = s.rs.length := by omega
  subst hi9
  have hpy := chg_pipes (xs := ys) (ys := xs) (by omega) hux.lt
  have hpx := chg_pipes (xs := xs) (ys := ys) (by omega) huy.lt
  rw [hyl, huy.pipes, hux.pipes] at hpy
  rw [hxl, hux.pipes, huy.pipes] at hpx
  have hcy : (chg ys xs s.rs.length 0).length = s.rs.length := by rw [chg_len]; exact hyl
  have hcx : (chg xs ys s.rs.length 0).length = s.rs.length := by rw [chg_len]; exact hxl
  have hdy : pipesU (chg ys xs s.rs.length 0) (chg ys xs s.rs.length 0).length = diffP s n m := by rw [hcy]; exact hpy
  have hdx : pipesU (chg xs ys s.rs.length 0) (chg xs ys s.rs.length 0).length = diffP s m n := by rw [hcx]; exact hpx
  refine gc_region <| gl_op <| op_rd rfl (rd_move rfl) ?_
  refine gl_op (op_call rfl (vf := []) (vc := []) rfl rfl Tryz.call25 (fun w1 ho => by
    have h9 := piped_ok (chg ys xs s.rs.length 0) (rowA (some b32)) s.rs.length (by omega) (chg_lt huy.lt) w1 (hT.at ho (by decide)) (by rw [hcy]; exact ho.rowSl 1 rfl)
    rw [hdy, hcy] at h9
    exact h9) ?_)
  rintro _ _ ⟨r80, c80, rfl, rfl⟩
  refine gl_op <| op_rd rfl (rd_move rfl) ?_
  refine gl_op (op_call rfl (vf := []) (vc := []) rfl rfl Tryz.call25 (fun w1 ho => by
    have h9 := piped_ok (chg xs ys s.rs.length 0) (rowA (some b29)) s.rs.length (by omega) (chg_lt hux.lt) w1 (hT.at ho (by decide)) (by rw [hcx]; exact ho.rowSl 1 rfl)
    rw [hdx, hcx] at h9
    exact h9) ?_)
  rintro _ _ ⟨r82, c82, rfl, rfl⟩
  refine gl_op <| op_rd rfl (rd_assign rfl) <| gl_op <| op_rd rfl (rd_assign rfl) <| gl_op <| op_rd rfl (rd_assign rfl) <| gl_nil <| gx_then <| gc_ret <| gx_ret3 (.inl rfl) Tryz.results15 rfl rfl rfl [1, 0] (by decide) ?_
  exact .inr (.inr ⟨hem, hen, m, n, r80, r82, c80, c82, rfl, rfl, hgm, hgn, rfl, rfl⟩)
end Go.Proofs.YtbjijbbkfgcleaaGreatDoor
namespace Go.Proofs.YtbjijbbkfgcleaaGreatDoor
open Go.Gv
open Go.RowKit
open Go.Sn
open Sx
set_option maxRecDepth 100000 in
set_option maxHeartbeats 1000000 in
theorem lawChanges_ok (s : Org) (m n : Hd) (hle : OrgLe s) (hhem : HdLe m) (hhen : HdLe n) (w0 : World) (hS : OrgIn s w0 []) (hHm : HdIn m w0 []) (hHn : HdIn n w0 []) (hT : TabIn w0) : Sp Tryz.prog 4 [s.val, m.val, n.val] w0 [] (RV (.bool true)) := by
  refine spec_enter Tryz.func4 rfl Tryz.ntmps4 rfl (Own.refl _) ?_
  simp only [argEnv]
  refine gc_seq <| gc_region <| gl_op (op_box rfl rfl rfl (fun b3 => ?_))
  refine gl_op (op_box rfl rfl rfl (fun b4 => ?_))
  refine gl_op (op_box rfl rfl rfl (fun b5 => ?_))
  refine gl_op <| op_rd rfl (rd_assign rfl) <| gl_nil <| gx_then <| gc_seq <| gc_seq <| gc_region <| gl_op (op_rd rfl (rd_loadAgg Tryz.underlying27 rfl ty_27 rfl (by exact cs_blk 2 (off := 0) (k := 4) rfl rfl) rfl) ?_)
  refine gl_op (op_call rfl (vf := []) (vc := []) rfl rfl Tryz.call5 (fun w1 ho => far10_ok s hle w1 (hS.at ho)) ?_)
  rintro _ _ ⟨fa, rfl, rfl⟩
  refine gl_op <| op_rd rfl (rd_move rfl) <| gk_bool (fun h15 => ?_) (fun h15 => ?_)
  · refine gl_no rfl rfl rfl <| gl_no rfl rfl rfl <| gl_op <| op_rd rfl (rd_pick_t rfl rfl) <| gl_op <| op_rd rfl (rd_move rfl) <| gl_no rfl rfl rfl <| gl_no rfl rfl rfl <| gl_op <| op_rd rfl (rd_pick_t rfl rfl) <| gl_op <| op_rd rfl (rd_move rfl) <| gl_no rfl rfl rfl <| gl_no rfl rfl rfl <| gl_no rfl rfl rfl <| gl_op <| op_rd rfl (rd_pick_t rfl rfl) <| gl_op <| op_rd rfl (rd_move rfl) <| gl_no rfl rfl rfl <| gl_no rfl rfl rfl <| gl_no rfl rfl rfl <| gl_op <| op_rd rfl (rd_pick_t rfl rfl) <| gl_nil <| gx_then <| gc_cond_t rfl <| gc_seq <| gc_region <| gl_op (op_call rfl (vf := []) (vc := []) rfl rfl Tryz.call8 (fun w1 ho => shown_ok w1 (hT.at ho (by decide))) ?_)
    rintro _ _ ⟨rfl, rfl⟩
    refine gl_op <| op_rd rfl (rd_assign rfl) <| gl_nil <| gx_then <| gc_ret <| gx_then_ret <| gx_ret1 (.inl rfl) Tryz.results4 rfl [] (by decide) ?_
    exact ⟨rfl, rfl⟩
  refine gl_yes rfl rfl (op_rd rfl (rd_loadAgg Tryz.underlying31 rfl ty_31 rfl (by exact cs_blk 1 (off := 0) (k := 3) rfl rfl) rfl) ?_)
  refine gl_yes rfl rfl (op_call rfl (vf := []) (vc := []) rfl rfl Tryz.call6 (fun w1 ho => far12_ok m hhem w1 (hHm.at ho)) ?_)
  rintro _ _ ⟨f17, rfl, rfl⟩
  refine gl_op <| op_rd rfl (rd_pick_f rfl rfl) <| gl_op <| op_rd rfl (rd_move rfl) <| gk_bool (fun h19 => ?_) (fun h19 => ?_)
  · refine gl_no rfl rfl rfl <| gl_no rfl rfl rfl <| gl_op <| op_rd rfl (rd_pick_t rfl rfl) <| gl_op <| op_rd rfl (rd_move rfl) <| gl_no rfl rfl rfl <| gl_no rfl rfl rfl <| gl_no rfl rfl rfl <| gl_op <| op_rd rfl (rd_pick_t rfl rfl) <| gl_op <| op_rd rfl (rd_move rfl) <| gl_no rfl rfl rfl <| gl_no rfl rfl rfl <| gl_no rfl rfl rfl <| gl_op <| op_rd rfl (rd_pick_t rfl rfl) <| gl_nil <| gx_then <| gc_cond_t rfl <| gc_seq <| gc_region <| gl_op (op_call rfl (vf := []) (vc := []) rfl rfl Tryz.call8 (fun w1 ho => shown_ok w1 (hT.at ho (by decide))) ?_)
    rintro _ _ ⟨rfl, rfl⟩
    refine gl_op <| op_rd rfl (rd_assign rfl) <| gl_nil <| gx_then <| gc_ret <| gx_then_ret <| gx_ret1 (.inl rfl) Tryz.results4 rfl [] (by decide) ?_
    exact ⟨rfl, rfl⟩
  refine gl_yes rfl rfl (op_rd rfl (rd_loadAgg Tryz.underlying31 rfl ty_31 rfl (by exact cs_blk 0 (off := 0) (k := 3) rfl rfl) rfl) ?_)
  refine gl_yes rfl rfl (op_call rfl (vf := []) (vc := []) rfl rfl Tryz.call6 (fun w1 ho => far12_ok n hhen w1 (hHn.at ho)) ?_)
  rintro _ _ ⟨f21, rfl, rfl⟩
  refine gl_op <| op_rd rfl (rd_pick_f rfl rfl) <| gl_op <| op_rd rfl (rd_move rfl) <| gk_bool (fun h23 => ?_) (fun h23 => ?_)
  · refine gl_no rfl rfl rfl <| gl_no rfl rfl rfl <| gl_no rfl rfl rfl <| gl_op <| op_rd rfl (rd_pick_t rfl rfl) <| gl_op <| op_rd rfl (rd_move rfl) <| gl_no rfl rfl rfl <| gl_no rfl rfl rfl <| gl_no rfl rfl rfl <| gl_op <| op_rd rfl (rd_pick_t rfl rfl) <| gl_nil <| gx_then <| gc_cond_t rfl <| gc_seq <| gc_region <| gl_op (op_call rfl (vf := []) (vc := []) rfl rfl Tryz.call8 (fun w1 ho => shown_ok w1 (hT.at ho (by decide))) ?_)
    rintro _ _ ⟨rfl, rfl⟩
    refine gl_op <| op_rd rfl (rd_assign rfl) <| gl_nil <| gx_then <| gc_ret <| gx_then_ret <| gx_ret1 (.inl rfl) Tryz.results4 rfl [] (by decide) ?_
    exact ⟨rfl, rfl⟩
  refine gl_yes rfl rfl (op_rd rfl (rd_loadAgg Tryz.underlying27 rfl ty_27 rfl (by exact cs_blk 2 (off := 0) (k := 4) rfl rfl) rfl) ?_)
  refine gl_yes rfl rfl (op_rd rfl (rd_loadAgg Tryz.underlying31 rfl ty_31 rfl (by exact cs_blk 1 (off := 0) (k := 3) rfl rfl) rfl) ?_)
  refine gl_yes rfl rfl (op_call rfl (vf := []) (vc := []) rfl rfl Tryz.call7 (fun w1 ho => large_ok s hle m w1 (hS.at ho)) ?_)
  rintro _ _ ⟨f26, rfl, rfl⟩
  refine gl_op <| op_rd rfl (rd_pick_f rfl rfl) <| gl_op <| op_rd rfl (rd_move rfl) <| gk_bool (fun h28 => ?_) (fun h28 => ?_)
  · refine gl_no rfl rfl rfl <| gl_no rfl rfl rfl <| gl_no rfl rfl rfl <| gl_op <| op_rd rfl (rd_pick_t rfl rfl) <| gl_nil <| gx_then <| gc_cond_t rfl <| gc_seq <| gc_region <| gl_op (op_call rfl (vf := []) (vc := []) rfl rfl Tryz.call8 (fun w1 ho => shown_ok w1 (hT.at ho (by decide))) ?_)
    rintro _ _ ⟨rfl, rfl⟩
    refine gl_op <| op_rd rfl (rd_assign rfl) <| gl_nil <| gx_then <| gc_ret <| gx_then_ret <| gx_ret1 (.inl rfl) Tryz.results4 rfl [] (by decide) ?_
    exact ⟨rfl, rfl⟩
  refine gl_yes rfl rfl (op_rd rfl (rd_loadAgg Tryz.underlying27 rfl ty_27 rfl (by exact cs_blk 2 (off := 0) (k := 4) rfl rfl) rfl) ?_)
  refine gl_yes rfl rfl (op_rd rfl (rd_loadAgg Tryz.underlying31 rfl ty_31 rfl (by exact cs_blk 0 (off := 0) (k := 3) rfl rfl) rfl) ?_)
  refine gl_yes rfl rfl (op_call rfl (vf := []) (vc := []) rfl rfl Tryz.call7 (fun w1 ho => large_ok s hle n w1 (hS.at ho)) ?_)
  rintro _ _ ⟨f31, rfl, rfl⟩
  refine gl_op <| op_rd rfl (rd_pick_f rfl rfl) <| gk_bool (fun h32 => ?_) (fun h32 => ?_)
  · refine gl_nil <| gx_then <| gc_cond_t rfl <| gc_seq <| gc_region <| gl_op (op_call rfl (vf := []) (vc := []) rfl rfl Tryz.call8 (fun w1 ho => shown_ok w1 (hT.at ho (by decide))) ?_)
    rintro _ _ ⟨rfl, rfl⟩
    refine gl_op <| op_rd rfl (rd_assign rfl) <| gl_nil <| gx_then <| gc_ret <| gx_then_ret <| gx_ret1 (.inl rfl) Tryz.results4 rfl [] (by decide) ?_
    exact ⟨rfl, rfl⟩
  refine gl_nil <| gx_then <| gc_cond_f rfl <| gc_skip <| gx_then <| gc_seq <| gc_region <| gl_op (op_rd rfl (rd_loadAgg Tryz.underlying27 rfl ty_27 rfl (by exact cs_blk 2 (off := 0) (k := 4) rfl rfl) rfl) ?_)
  refine gl_op (op_rd rfl (rd_loadAgg Tryz.underlying31 rfl ty_31 rfl (by exact cs_blk 1 (off := 0) (k := 3) rfl rfl) rfl) ?_)
  refine gl_op (op_rd rfl (rd_loadAgg Tryz.underlying31 rfl ty_31 rfl (by exact cs_blk 0 (off := 0) (k := 3) rfl rfl) rfl) ?_)
  refine gl_op (op_call rfl (vf := []) (vc := []) rfl rfl Tryz.call15 (fun w1 ho => chgQ_sp (Change_ok s m n hle hhem hhen w1 (hS.at ho) (hHm.at ho) (hHn.at ho) (hT.at ho (by decide)))) ?_)
  rintro _ _ ⟨ra38, rb38, ca38, cb38, rfl, rfl⟩
  refine gl_op <| op_rd rfl (rd_move rfl) <| gl_op <| op_rd rfl (rd_extract rfl rfl) <| gl_op <| op_rd rfl (rd_extract rfl rfl) <| gl_op <| op_rd rfl (rd_extract rfl rfl) <| gl_op <| op_rd rfl (rd_assign rfl) <| gl_op <| op_rd rfl (rd_assign rfl) <| gl_op <| op_rd rfl (rd_assign rfl) <| gl_nil <| gx_then <| gc_seq <| gc_region <| gl_op (op_rd rfl (rd_loadAgg Tryz.underlying27 rfl ty_27 rfl (by exact cs_blk 4 (off := 0) (k := 4) rfl rfl) rfl) ?_)
  refine gl_op (op_rd rfl (rd_loadAgg Tryz.underlying31 rfl ty_31 rfl (by exact cs_blk 3 (off := 0) (k := 3) rfl rfl) rfl) ?_)
  refine gl_op (op_rd rfl (rd_loadAgg Tryz.underlying31 rfl ty_31 rfl (by exact cs_blk 2 (off := 0) (k := 3) rfl rfl) rfl) ?_)
  refine gl_op (op_call rfl (vf := []) (vc := []) rfl rfl Tryz.call16 (fun w1 ho => chgQ_sp (rChange_ok s m n hle hhem hhen w1 (hS.at ho) (hHm.at ho) (hHn.at ho))) ?_)
  rintro _ _ ⟨ra46, rb46, ca46, cb46, rfl, rfl⟩
  refine gl_op <| op_rd rfl (rd_move rfl) <| gl_op <| op_rd rfl (rd_extract rfl rfl) <| gl_op <| op_rd rfl (rd_extract rfl rfl) <| gl_op <| op_rd rfl (rd_extract rfl rfl) <| gl_op <| op_rd rfl (rd_assign rfl) <| gl_op <| op_rd rfl (rd_assign rfl) <| gl_op <| op_rd rfl (rd_assign rfl) <| gl_nil <| gx_then <| gc_seq <| gc_region <| gl_op <| op_rd rfl (rd_move rfl) <| gl_op <| op_rd rfl (rd_move rfl) <| gl_op (op_call rfl (vf := []) (vc := []) rfl rfl Tryz.call13 (fun w1 ho => SamePipes_ok (chgA s m n).1 (chgA s m n).1 _ _ _ _ (chgA_len hhem hhen).1 w1 (ho.rowSl 2 rfl) (ho.rowSl 0 rfl)) ?_)
  rintro _ _ ⟨rfl, rfl⟩
  refine gk_bool (fun h52 => ?_) (fun h52 => ?_)
  · refine gl_op <| op_rd rfl (rd_move rfl) <| gl_yes rfl rfl <| op_rd rfl (rd_move rfl) <| gl_yes rfl rfl <| op_rd rfl (rd_move rfl) <| gl_yes rfl rfl (op_call rfl (vf := []) (vc := []) rfl rfl Tryz.call13 (fun w1 ho => SamePipes_ok (chgA s m n).2.1 (chgA s m n).2.1 _ _ _ _ (chgA_len hhem hhen).2 w1 (ho.rowSl 3 rfl) (ho.rowSl 1 rfl)) ?_)
    rintro _ _ ⟨rfl, rfl⟩
    refine gk_bool (fun h56 => ?_) (fun h56 => ?_)
    · refine gl_op <| op_rd rfl (rd_pick_t rfl rfl) <| gl_op <| op_rd rfl (rd_move rfl) <| gl_yes rfl rfl <| op_rd rfl (rd_move rfl) <| gl_yes rfl rfl <| op_rd rfl (rd_move rfl) <| gl_yes rfl rfl (op_rd rfl (rd_eql rfl rfl) (gk_dec (fun h61 => ?_) (fun h61 => ?_)))
      · refine gl_op <| op_rd rfl (rd_pick_t rfl rfl) <| gl_op <| op_rd rfl (rd_move rfl) <| gl_yes rfl rfl (op_call rfl (vf := []) (vc := []) rfl rfl Tryz.call8 (fun w1 ho => shown_ok w1 (hT.at ho (by decide))) ?_)
        rintro _ _ ⟨rfl, rfl⟩
        refine gl_op <| op_rd rfl (rd_pick_t rfl rfl) <| gl_op <| op_rd rfl (rd_assign rfl) <| gl_nil <| gx_then <| gc_ret <| gx_ret1 (.inl rfl) Tryz.results4 rfl [] (by decide) ?_
        exact ⟨rfl, rfl⟩
      exact absurd rfl h61
    rw [decide_eq_true rfl] at h56; cases h56
  rw [decide_eq_true rfl] at h52; cases h52
end Go.Proofs.YtbjijbbkfgcleaaGreatDoor
