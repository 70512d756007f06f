import Derived.Test.YthcbcdjkfefnlaaGreatDoorW01
import Derived.Test.YthcbcdjkfefnlaaGreatDoorProg
import Derived.Shelf.Strconv.Itoa4
import Derived.Test.YthcbcdjkfefnlaaGreatDoorW00
/- A part of the proof: walks of the program. -/
set_option autoImplicit false
set_option linter.unusedSimpArgs false
set_option linter.unusedVariables false
set_option linter.unnecessarySimpa false
set_option maxRecDepth 100000
set_option maxHeartbeats 8000000
namespace Go.Proofs.YthcbcdjkfefnlaaGreatDoor
open Go.Gv
open Go.RowKit
open Go.Sn
theorem Xu : TyF Tryz.prog 3 (.int .i64 0) 1 8 := TyF.mk' (by kernel_rfl)
theorem ty_4 : TyF Tryz.prog 4 (.bool false) 1 1 := TyF.mk' (by kernel_rfl)
theorem Ym : TyF Tryz.prog 5 (.int .u8 0) 1 1 := TyF.mk' (by kernel_rfl)
theorem YA : TyF Tryz.prog 23 (.agg #[.int .i64 0, .int .i64 0, .int .i64 0]) 3 24 := TyF.mk' (by kernel_rfl)
theorem Zac : TyF Tryz.prog 24 (.slice none 0 0) 1 24 := TyF.mk' (by kernel_rfl)
theorem Z4 : TyF Tryz.prog 26 (.agg #[.slice none 0 0, .slice none 0 0]) 2 48 := TyF.mk' (by kernel_rfl)
theorem ty_42 : TyF Tryz.prog 42 (.slice none 0 0) 1 24 := TyF.mk' (by kernel_rfl)
theorem VM : TyF Tryz.prog 45 (.agg #[.slice none 0 0, .slice none 0 0, .slice none 0 0, .slice none 0 0]) 4 96 := TyF.mk' (by kernel_rfl)
theorem ty_56 : TyF Tryz.prog 56 (.slice none 0 0) 1 24 := TyF.mk' (by kernel_rfl)
theorem ty_65 : TyF Tryz.prog 65 (.slice none 0 0) 1 24 := TyF.mk' (by kernel_rfl)
theorem XI : TyF Tryz.prog 69 (.agg #[.int .i64 0, .int .i64 0, .int .i64 0]) 3 24 := TyF.mk' (by kernel_rfl)
theorem VN : TyF Tryz.prog 94 (.agg #[.int .i64 0, .int .i64 0]) 2 16 := TyF.mk' (by kernel_rfl)
theorem Zf7 : TyF Tryz.prog 96 (.agg #[.int .i64 0, .int .i64 0, .int .i64 0, .int .i64 0]) 4 32 := TyF.mk' (by kernel_rfl)
theorem Zc3 : TyF Tryz.prog 99 (.agg #[.string ⟨#[]⟩, .int .i64 0, .int .i64 0, .int .i64 0, .slice none 0 0]) 5 64 := TyF.mk' (by kernel_rfl)
theorem JD : TyF Tryz.prog 109 (.agg #[.string ⟨#[]⟩, .int .i64 0, .int .i64 0]) 3 32 := TyF.mk' (by kernel_rfl)
theorem Jg : TyF Tryz.prog 111 (.agg #[.string ⟨#[]⟩, .int .i64 0, .int .i64 0, .int .i64 0, .int .i64 0, .int .i64 0]) 6 56 := TyF.mk' (by kernel_rfl)
theorem Zal : TyF Tryz.prog 113 (.agg #[.string ⟨#[]⟩, .int .i64 0, .int .i64 0, .int .i64 0, .int .i64 0, .bool false]) 6 56 := TyF.mk' (by kernel_rfl)
theorem ty_135 : TyF Tryz.prog 135 (.map none) 1 8 := TyF.mk' (by kernel_rfl)
theorem W7 : TyF Tryz.prog 136 (.int .u32 0) 1 4 := TyF.mk' (by kernel_rfl)
theorem ty_148 : TyF Tryz.prog 148 (.pointer none) 1 8 := TyF.mk' (by kernel_rfl)
theorem Ya : TyF Tryz.prog 182 (.agg #[.int .i64 0, .int .i64 0]) 2 16 := TyF.mk' (by kernel_rfl)
theorem Z6 : TyF Tryz.prog 184 (.agg #[.int .i64 0, .int .u32 0, .slice none 0 0]) 3 40 := TyF.mk' (by kernel_rfl)
theorem Yz : TyF Tryz.prog 189 (.agg #[.int .i64 0, .int .u32 0, .slice none 0 0, .int .i64 0, .int .i64 0]) 5 56 := TyF.mk' (by kernel_rfl)
theorem JY (ad : Addr) (w : World) : (Instr.fieldAt 23 (.pointer (some ad)) 0).run Tryz.prog w = .ok (.pointer (some (ad.add 0))) w := by cases ad; kernel_rfl
theorem X8 (ad : Addr) (w : World) : (Instr.fieldAt 23 (.pointer (some ad)) 1).run Tryz.prog w = .ok (.pointer (some (ad.add 1))) w := by cases ad; kernel_rfl
theorem Zbg (ad : Addr) (w : World) : (Instr.fieldAt 23 (.pointer (some ad)) 2).run Tryz.prog w = .ok (.pointer (some (ad.add 2))) w := by cases ad; kernel_rfl
theorem YZ (ad : Addr) (w : World) : (Instr.fieldAt 26 (.pointer (some ad)) 0).run Tryz.prog w = .ok (.pointer (some (ad.add 0))) w := by cases ad; kernel_rfl
theorem Y0 (ad : Addr) (w : World) : (Instr.fieldAt 26 (.pointer (some ad)) 1).run Tryz.prog w = .ok (.pointer (some (ad.add 1))) w := by cases ad; kernel_rfl
theorem Ww (ad : Addr) (w : World) : (Instr.fieldAt 45 (.pointer (some ad)) 0).run Tryz.prog w = .ok (.pointer (some (ad.add 0))) w := by cases ad; kernel_rfl
theorem Zdd (ad : Addr) (w : World) : (Instr.fieldAt 45 (.pointer (some ad)) 1).run Tryz.prog w = .ok (.pointer (some (ad.add 1))) w := by cases ad; kernel_rfl
theorem Vn (ad : Addr) (w : World) : (Instr.fieldAt 45 (.pointer (some ad)) 2).run Tryz.prog w = .ok (.pointer (some (ad.add 2))) w := by cases ad; kernel_rfl
theorem JZ (ad : Addr) (w : World) : (Instr.fieldAt 45 (.pointer (some ad)) 3).run Tryz.prog w = .ok (.pointer (some (ad.add 3))) w := by cases ad; kernel_rfl
theorem fa_52_0 (ad : Addr) (w : World) : (Instr.fieldAt 52 (.pointer (some ad)) 0).run Tryz.prog w = .ok (.pointer (some (ad.add 0))) w := by cases ad; kernel_rfl
theorem Wx (ad : Addr) (w : World) : (Instr.fieldAt 52 (.pointer (some ad)) 1).run Tryz.prog w = .ok (.pointer (some (ad.add 1))) w := by cases ad; kernel_rfl
theorem Jh (ad : Addr) (w : World) : (Instr.fieldAt 52 (.pointer (some ad)) 2).run Tryz.prog w = .ok (.pointer (some (ad.add 2))) w := by cases ad; kernel_rfl
theorem Zbh (ad : Addr) (w : World) : (Instr.fieldAt 94 (.pointer (some ad)) 0).run Tryz.prog w = .ok (.pointer (some (ad.add 0))) w := by cases ad; kernel_rfl
theorem Vo (ad : Addr) (w : World) : (Instr.fieldAt 94 (.pointer (some ad)) 1).run Tryz.prog w = .ok (.pointer (some (ad.add 1))) w := by cases ad; kernel_rfl
theorem Zmj (ad : Addr) (w : World) : (Instr.fieldAt 96 (.pointer (some ad)) 0).run Tryz.prog w = .ok (.pointer (some (ad.add 0))) w := by cases ad; kernel_rfl
theorem Zhj (ad : Addr) (w : World) : (Instr.fieldAt 96 (.pointer (some ad)) 1).run Tryz.prog w = .ok (.pointer (some (ad.add 1))) w := by cases ad; kernel_rfl
theorem Zhk (ad : Addr) (w : World) : (Instr.fieldAt 96 (.pointer (some ad)) 2).run Tryz.prog w = .ok (.pointer (some (ad.add 2))) w := by cases ad; kernel_rfl
theorem Zmk (ad : Addr) (w : World) : (Instr.fieldAt 96 (.pointer (some ad)) 3).run Tryz.prog w = .ok (.pointer (some (ad.add 3))) w := by cases ad; kernel_rfl
theorem Zml (ad : Addr) (w : World) : (Instr.fieldAt 99 (.pointer (some ad)) 0).run Tryz.prog w = .ok (.pointer (some (ad.add 0))) w := by cases ad; kernel_rfl
theorem Zde (ad : Addr) (w : World) : (Instr.fieldAt 99 (.pointer (some ad)) 1).run Tryz.prog w = .ok (.pointer (some (ad.add 1))) w := by cases ad; kernel_rfl
theorem fa_99_2 (ad : Addr) (w : World) : (Instr.fieldAt 99 (.pointer (some ad)) 2).run Tryz.prog w = .ok (.pointer (some (ad.add 2))) w := by cases ad; kernel_rfl
theorem Zhl (ad : Addr) (w : World) : (Instr.fieldAt 99 (.pointer (some ad)) 3).run Tryz.prog w = .ok (.pointer (some (ad.add 4))) w := by cases ad; kernel_rfl
theorem fa_109_0 (ad : Addr) (w : World) : (Instr.fieldAt 109 (.pointer (some ad)) 0).run Tryz.prog w = .ok (.pointer (some (ad.add 0))) w := by cases ad; kernel_rfl
theorem Zbi (ad : Addr) (w : World) : (Instr.fieldAt 109 (.pointer (some ad)) 1).run Tryz.prog w = .ok (.pointer (some (ad.add 1))) w := by cases ad; kernel_rfl
theorem Zeb (ad : Addr) (w : World) : (Instr.fieldAt 109 (.pointer (some ad)) 2).run Tryz.prog w = .ok (.pointer (some (ad.add 2))) w := by cases ad; kernel_rfl
theorem fa_111_0 (ad : Addr) (w : World) : (Instr.fieldAt 111 (.pointer (some ad)) 0).run Tryz.prog w = .ok (.pointer (some (ad.add 0))) w := by cases ad; kernel_rfl
theorem fa_111_1 (ad : Addr) (w : World) : (Instr.fieldAt 111 (.pointer (some ad)) 1).run Tryz.prog w = .ok (.pointer (some (ad.add 1))) w := by cases ad; kernel_rfl
theorem fa_111_2 (ad : Addr) (w : World) : (Instr.fieldAt 111 (.pointer (some ad)) 2).run Tryz.prog w = .ok (.pointer (some (ad.add 2))) w := by cases ad; kernel_rfl
theorem Zec (ad : Addr) (w : World) : (Instr.fieldAt 111 (.pointer (some ad)) 3).run Tryz.prog w = .ok (.pointer (some (ad.add 4))) w := by cases ad; kernel_rfl
theorem Zed (ad : Addr) (w : World) : (Instr.fieldAt 111 (.pointer (some ad)) 4).run Tryz.prog w = .ok (.pointer (some (ad.add 5))) w := by cases ad; kernel_rfl
theorem fa_113_0 (ad : Addr) (w : World) : (Instr.fieldAt 113 (.pointer (some ad)) 0).run Tryz.prog w = .ok (.pointer (some (ad.add 0))) w := by cases ad; kernel_rfl
theorem Zee (ad : Addr) (w : World) : (Instr.fieldAt 113 (.pointer (some ad)) 1).run Tryz.prog w = .ok (.pointer (some (ad.add 1))) w := by cases ad; kernel_rfl
theorem Zi7 (ad : Addr) (w : World) : (Instr.fieldAt 113 (.pointer (some ad)) 2).run Tryz.prog w = .ok (.pointer (some (ad.add 2))) w := by cases ad; kernel_rfl
theorem Zef (ad : Addr) (w : World) : (Instr.fieldAt 113 (.pointer (some ad)) 3).run Tryz.prog w = .ok (.pointer (some (ad.add 3))) w := by cases ad; kernel_rfl
theorem VO (ad : Addr) (w : World) : (Instr.fieldAt 113 (.pointer (some ad)) 4).run Tryz.prog w = .ok (.pointer (some (ad.add 4))) w := by cases ad; kernel_rfl
theorem Zeg (ad : Addr) (w : World) : (Instr.fieldAt 113 (.pointer (some ad)) 5).run Tryz.prog w = .ok (.pointer (some (ad.add 5))) w := by cases ad; kernel_rfl
theorem Zi8 (ad : Addr) (w : World) : (Instr.fieldAt 115 (.pointer (some ad)) 0).run Tryz.prog w = .ok (.pointer (some (ad.add 0))) w := by cases ad; kernel_rfl
theorem WB (ad : Addr) (w : World) : (Instr.fieldAt 115 (.pointer (some ad)) 1).run Tryz.prog w = .ok (.pointer (some (ad.add 1))) w := by cases ad; kernel_rfl
theorem JE (ad : Addr) (w : World) : (Instr.fieldAt 115 (.pointer (some ad)) 2).run Tryz.prog w = .ok (.pointer (some (ad.add 2))) w := by cases ad; kernel_rfl
theorem JF (ad : Addr) (w : World) : (Instr.fieldAt 115 (.pointer (some ad)) 3).run Tryz.prog w = .ok (.pointer (some (ad.add 3))) w := by cases ad; kernel_rfl
theorem XJ (ad : Addr) (w : World) : (Instr.fieldAt 115 (.pointer (some ad)) 4).run Tryz.prog w = .ok (.pointer (some (ad.add 4))) w := by cases ad; kernel_rfl
theorem Zi9 (ad : Addr) (w : World) : (Instr.fieldAt 115 (.pointer (some ad)) 5).run Tryz.prog w = .ok (.pointer (some (ad.add 5))) w := by cases ad; kernel_rfl
theorem Zja (ad : Addr) (w : World) : (Instr.fieldAt 115 (.pointer (some ad)) 6).run Tryz.prog w = .ok (.pointer (some (ad.add 6))) w := by cases ad; kernel_rfl
theorem Zbj (ad : Addr) (w : World) : (Instr.fieldAt 115 (.pointer (some ad)) 7).run Tryz.prog w = .ok (.pointer (some (ad.add 7))) w := by cases ad; kernel_rfl
theorem Zeh (ad : Addr) (w : World) : (Instr.fieldAt 138 (.pointer (some ad)) 0).run Tryz.prog w = .ok (.pointer (some (ad.add 0))) w := by cases ad; kernel_rfl
theorem Xp (ad : Addr) (w : World) : (Instr.fieldAt 138 (.pointer (some ad)) 1).run Tryz.prog w = .ok (.pointer (some (ad.add 1))) w := by cases ad; kernel_rfl
theorem Zjb (ad : Addr) (w : World) : (Instr.fieldAt 138 (.pointer (some ad)) 2).run Tryz.prog w = .ok (.pointer (some (ad.add 2))) w := by cases ad; kernel_rfl
theorem Yj (ad : Addr) (w : World) : (Instr.fieldAt 138 (.pointer (some ad)) 3).run Tryz.prog w = .ok (.pointer (some (ad.add 3))) w := by cases ad; kernel_rfl
theorem Yr (ad : Addr) (w : World) : (Instr.fieldAt 138 (.pointer (some ad)) 4).run Tryz.prog w = .ok (.pointer (some (ad.add 4))) w := by cases ad; kernel_rfl
theorem X9 (ad : Addr) (w : World) : (Instr.fieldAt 138 (.pointer (some ad)) 5).run Tryz.prog w = .ok (.pointer (some (ad.add 5))) w := by cases ad; kernel_rfl
theorem Zbk (ad : Addr) (w : World) : (Instr.fieldAt 151 (.pointer (some ad)) 0).run Tryz.prog w = .ok (.pointer (some (ad.add 0))) w := by cases ad; kernel_rfl
theorem Zjc (ad : Addr) (w : World) : (Instr.fieldAt 151 (.pointer (some ad)) 1).run Tryz.prog w = .ok (.pointer (some (ad.add 4))) w := by cases ad; kernel_rfl
theorem Zbl (ad : Addr) (w : World) : (Instr.fieldAt 182 (.pointer (some ad)) 0).run Tryz.prog w = .ok (.pointer (some (ad.add 0))) w := by cases ad; kernel_rfl
theorem Zbm (ad : Addr) (w : World) : (Instr.fieldAt 182 (.pointer (some ad)) 1).run Tryz.prog w = .ok (.pointer (some (ad.add 1))) w := by cases ad; kernel_rfl
theorem Y6 (ad : Addr) (w : World) : (Instr.fieldAt 184 (.pointer (some ad)) 0).run Tryz.prog w = .ok (.pointer (some (ad.add 0))) w := by cases ad; kernel_rfl
theorem Xx (ad : Addr) (w : World) : (Instr.fieldAt 184 (.pointer (some ad)) 1).run Tryz.prog w = .ok (.pointer (some (ad.add 1))) w := by cases ad; kernel_rfl
theorem JG (ad : Addr) (w : World) : (Instr.fieldAt 184 (.pointer (some ad)) 2).run Tryz.prog w = .ok (.pointer (some (ad.add 2))) w := by cases ad; kernel_rfl
theorem JH (ad : Addr) (w : World) : (Instr.fieldAt 189 (.pointer (some ad)) 0).run Tryz.prog w = .ok (.pointer (some (ad.add 0))) w := by cases ad; kernel_rfl
theorem Zjd (ad : Addr) (w : World) : (Instr.fieldAt 189 (.pointer (some ad)) 1).run Tryz.prog w = .ok (.pointer (some (ad.add 3))) w := by cases ad; kernel_rfl
theorem Xt (x1 : Int) (x2 : Int) (x3 : Int) {w : World} : (Instr.build 23 #[(0, .int .i64 x1), (1, .int .i64 x2), (2, .int .i64 x3)]).run Tryz.prog w = .ok (.agg #[.int .i64 x1, .int .i64 x2, .int .i64 x3]) w := by kernel_rfl
theorem Zf8 (x1 : Int) (x2 : Int) {w : World} : (Instr.build 23 #[(0, .int .i64 x1), (2, .int .i64 x2)]).run Tryz.prog w = .ok (.agg #[.int .i64 x1, .int .i64 0, .int .i64 x2]) w := by kernel_rfl
theorem Zcg  {w : World} : (Instr.build 26 #[]).run Tryz.prog w = .ok (.agg #[.slice none 0 0, .slice none 0 0]) w := by kernel_rfl
theorem Zdf (x1a : Option Addr) (x1n x1c : Nat) {w : World} : (Instr.build 26 #[(0, .slice x1a x1n x1c)]).run Tryz.prog w = .ok (.agg #[.slice x1a x1n x1c, .slice none 0 0]) w := by kernel_rfl
theorem J0 (x1a : Option Addr) (x1n x1c : Nat) (x2a : Option Addr) (x2n x2c : Nat) {w : World} : (Instr.build 26 #[(0, .slice x1a x1n x1c), (1, .slice x2a x2n x2c)]).run Tryz.prog w = .ok (.agg #[.slice x1a x1n x1c, .slice x2a x2n x2c]) w := by kernel_rfl
theorem Zfp (x1a : Option Addr) (x1n x1c : Nat) (x2a : Option Addr) (x2n x2c : Nat) (x3a : Option Addr) (x3n x3c : Nat) (x4a : Option Addr) (x4n x4c : Nat) {w : World} : (Instr.build 45 #[(0, .slice x1a x1n x1c), (1, .slice x2a x2n x2c), (2, .slice x3a x3n x3c), (3, .slice x4a x4n x4c)]).run Tryz.prog w = .ok (.agg #[.slice x1a x1n x1c, .slice x2a x2n x2c, .slice x3a x3n x3c, .slice x4a x4n x4c]) w := by kernel_rfl
theorem Zje (x1a : Option Addr) (x1n x1c : Nat) (x2a : Option Addr) (x2n x2c : Nat) (x3a : Option Addr) (x3n x3c : Nat) {w : World} : (Instr.build 45 #[(0, .slice x1a x1n x1c), (2, .slice x2a x2n x2c), (3, .slice x3a x3n x3c)]).run Tryz.prog w = .ok (.agg #[.slice x1a x1n x1c, .slice none 0 0, .slice x2a x2n x2c, .slice x3a x3n x3c]) w := by kernel_rfl
theorem Zjf (x1 : Bool) (x2t : Nat) (x2v : Value) (x3a : Option Addr) (x3n x3c : Nat) (x4a : Option Addr) (x4n x4c : Nat) (x5a : Option Addr) (x5n x5c : Nat) (x6a : Option Addr) (x6n x6c : Nat) {w : World} : (Instr.build 52 #[(0, .bool x1), (1, .iface x2t x2v), (2, .agg #[.slice x3a x3n x3c, .slice x4a x4n x4c, .slice x5a x5n x5c, .slice x6a x6n x6c])]).run Tryz.prog w = .ok (.agg #[.bool x1, .iface x2t x2v, .slice x3a x3n x3c, .slice x4a x4n x4c, .slice x5a x5n x5c, .slice x6a x6n x6c]) w := by kernel_rfl
theorem Zei  {w : World} : (Instr.build 69 #[]).run Tryz.prog w = .ok (.agg #[.int .i64 0, .int .i64 0, .int .i64 0]) w := by kernel_rfl
theorem J1 (x1 : Int) (x2 : Int) {w : World} : (Instr.build 69 #[(0, .int .i64 x1), (1, .int .i64 x2)]).run Tryz.prog w = .ok (.agg #[.int .i64 x1, .int .i64 x2, .int .i64 0]) w := by kernel_rfl
theorem Zjg (x1 : Int) (x2 : Int) (x3 : Int) {w : World} : (Instr.build 69 #[(0, .int .i64 x1), (1, .int .i64 x2), (2, .int .i64 x3)]).run Tryz.prog w = .ok (.agg #[.int .i64 x1, .int .i64 x2, .int .i64 x3]) w := by kernel_rfl
theorem Zch (x1 : Int) (x2 : Int) {w : World} : (Instr.build 94 #[(0, .int .i64 x1), (1, .int .i64 x2)]).run Tryz.prog w = .ok (.agg #[.int .i64 x1, .int .i64 x2]) w := by kernel_rfl
theorem Zjh (x1 : Int) (x2 : Int) (x3 : Int) {w : World} : (Instr.build 96 #[(0, .int .i64 x1), (2, .int .i64 x2), (3, .int .i64 x3)]).run Tryz.prog w = .ok (.agg #[.int .i64 x1, .int .i64 0, .int .i64 x2, .int .i64 x3]) w := by kernel_rfl
theorem Zji (x1 : Int) (x2 : Int) (x3 : Int) {w : World} : (Instr.build 96 #[(1, .int .i64 x1), (2, .int .i64 x2), (3, .int .i64 x3)]).run Tryz.prog w = .ok (.agg #[.int .i64 0, .int .i64 x1, .int .i64 x2, .int .i64 x3]) w := by kernel_rfl
theorem Zf9 (x1 : Int) (x2 : Int) {w : World} : (Instr.build 96 #[(2, .int .i64 x1), (3, .int .i64 x2)]).run Tryz.prog w = .ok (.agg #[.int .i64 0, .int .i64 0, .int .i64 x1, .int .i64 x2]) w := by kernel_rfl
theorem Vp (x1 : ByteArray) (x2 : Int) (x3 : Int) (x4a : Option Addr) (x4n x4c : Nat) {w : World} : (Instr.build 99 #[(0, .string x1), (2, .agg #[.int .i64 x2, .int .i64 x3]), (3, .slice x4a x4n x4c)]).run Tryz.prog w = .ok (.agg #[.string x1, .int .i64 0, .int .i64 x2, .int .i64 x3, .slice x4a x4n x4c]) w := by kernel_rfl
theorem Zhm (x1 : ByteArray) (x2 : Int) (x3 : Int) {w : World} : (Instr.build 109 #[(0, .string x1), (1, .int .i64 x2), (2, .int .i64 x3)]).run Tryz.prog w = .ok (.agg #[.string x1, .int .i64 x2, .int .i64 x3]) w := by kernel_rfl
theorem VP (x1 : ByteArray) (x2 : Int) (x3 : Int) (x4 : Int) (x5 : Int) (x6 : Int) {w : World} : (Instr.build 111 #[(0, .string x1), (1, .int .i64 x2), (2, .agg #[.int .i64 x3, .int .i64 x4]), (3, .int .i64 x5), (4, .int .i64 x6)]).run Tryz.prog w = .ok (.agg #[.string x1, .int .i64 x2, .int .i64 x3, .int .i64 x4, .int .i64 x5, .int .i64 x6]) w := by kernel_rfl
theorem Zk9 (x1 : ByteArray) (x2 : Int) {w : World} : (Instr.build 113 #[(0, .string x1), (3, .int .i64 x2)]).run Tryz.prog w = .ok (.agg #[.string x1, .int .i64 0, .int .i64 0, .int .i64 x2, .int .i64 0, .bool false]) w := by kernel_rfl
theorem Zhn (x1 : Bool) (x2a : Option Addr) (x2n x2c : Nat) (x3 : Int) {w : World} : (Instr.build 115 #[(0, .bool x1), (1, .slice x2a x2n x2c), (2, .int .i64 x3)]).run Tryz.prog w = .ok (.agg #[.bool x1, .slice x2a x2n x2c, .int .i64 x3, .slice none 0 0, .bool false, .int .i64 0, .int .i64 0, .int .i64 0]) w := by kernel_rfl
theorem Zbn (x1 : Int) (x2 : Int) (x3 : Int) {w : World} : (Instr.build 119 #[(0, .int .i64 x1), (1, .int .i64 x2), (2, .int .i64 x3)]).run Tryz.prog w = .ok (.agg #[.int .i64 x1, .int .i64 x2, .int .i64 x3]) w := by kernel_rfl
theorem Zej (x1 : Int) (x2 : Int) {w : World} : (Instr.build 125 #[(0, .int .i64 x1), (1, .int .i64 x2)]).run Tryz.prog w = .ok (.agg #[.int .i64 x1, .int .i64 x2]) w := by kernel_rfl
theorem Zek (x1 : Bool) (x2 : Option Addr) (x3 : Int) (x4 : Int) {w : World} : (Instr.build 138 #[(0, .bool x1), (1, .pointer x2), (2, .int .i64 x3), (5, .int .i64 x4)]).run Tryz.prog w = .ok (.agg #[.bool x1, .pointer x2, .int .i64 x3, .map none, .int .u32 0, .int .i64 x4]) w := by kernel_rfl
theorem Zla (x1a : Option Addr) (x1n x1c : Nat) (x2a : Option Addr) (x2n x2c : Nat) (x3a : Option Addr) (x3n x3c : Nat) (x4a : Option Addr) (x4n x4c : Nat) (x5 : Option Nat) {w : World} : (Instr.build 151 #[(0, .agg #[.slice x1a x1n x1c, .slice x2a x2n x2c, .slice x3a x3n x3c, .slice x4a x4n x4c]), (1, .map x5)]).run Tryz.prog w = .ok (.agg #[.slice x1a x1n x1c, .slice x2a x2n x2c, .slice x3a x3n x3c, .slice x4a x4n x4c, .map x5]) w := by kernel_rfl
theorem bd_182_0 (x1 : Int) {w : World} : (Instr.build 182 #[(0, .int .i64 x1)]).run Tryz.prog w = .ok (.agg #[.int .i64 x1, .int .i64 0]) w := by kernel_rfl
theorem W8 (x1 : Int) (x2 : Int) {w : World} : (Instr.build 182 #[(0, .int .i64 x1), (1, .int .i64 x2)]).run Tryz.prog w = .ok (.agg #[.int .i64 x1, .int .i64 x2]) w := by kernel_rfl
theorem Zho  {w : World} : (Instr.build 184 #[]).run Tryz.prog w = .ok (.agg #[.int .i64 0, .int .u32 0, .slice none 0 0]) w := by kernel_rfl
theorem bd_184_0 (x1 : Int) {w : World} : (Instr.build 184 #[(0, .int .i64 x1)]).run Tryz.prog w = .ok (.agg #[.int .i64 x1, .int .u32 0, .slice none 0 0]) w := by kernel_rfl
theorem Xd (x1 : Int) (x2 : Int) (x3a : Option Addr) (x3n x3c : Nat) {w : World} : (Instr.build 184 #[(0, .int .i64 x1), (1, .int .u32 x2), (2, .slice x3a x3n x3c)]).run Tryz.prog w = .ok (.agg #[.int .i64 x1, .int .u32 x2, .slice x3a x3n x3c]) w := by kernel_rfl
theorem YO (x1 : Int) (x2 : Int) (x3a : Option Addr) (x3n x3c : Nat) (x4 : Int) (x5 : Int) {w : World} : (Instr.build 189 #[(0, .agg #[.int .i64 x1, .int .u32 x2, .slice x3a x3n x3c]), (1, .agg #[.int .i64 x4, .int .i64 x5])]).run Tryz.prog w = .ok (.agg #[.int .i64 x1, .int .u32 x2, .slice x3a x3n x3c, .int .i64 x4, .int .i64 x5]) w := by kernel_rfl
theorem YB (x1 : Int) {w : World} : (Instr.buildSlice 24 1 #[(0, .int .i64 x1)]).run Tryz.prog w = .ok (.slice (some ⟨w.heap.size, 0, none⟩) 1 1) (w.alloc (.cells [.int .i64 x1].toArray 3)) := by kernel_rfl
theorem Vq (x1 : Int) (x2 : Int) {w : World} : (Instr.buildSlice 24 2 #[(0, .int .i64 x1), (1, .int .i64 x2)]).run Tryz.prog w = .ok (.slice (some ⟨w.heap.size, 0, none⟩) 2 2) (w.alloc (.cells [.int .i64 x1, .int .i64 x2].toArray 3)) := by kernel_rfl
theorem bs_40_0_  {w : World} : (Instr.buildSlice 40 0 #[]).run Tryz.prog w = .ok (.slice (some ⟨w.heap.size, 0, none⟩) 0 0) (w.alloc (.cells [].toArray 109)) := by kernel_rfl
theorem Znj (x1 : ByteArray) (x2 : Int) (x3 : Int) {w : World} : (Instr.buildSlice 40 1 #[(0, .agg #[.string x1, .int .i64 x2, .int .i64 x3])]).run Tryz.prog w = .ok (.slice (some ⟨w.heap.size, 0, none⟩) 1 1) (w.alloc (.cells [.string x1, .int .i64 x2, .int .i64 x3].toArray 109)) := by kernel_rfl
theorem Zjj (x1 : ByteArray) (x2 : Int) (x3 : Int) (x4 : Int) (x5 : Int) (x6 : Int) (x7 : ByteArray) (x8 : Int) (x9 : Int) (x10 : Int) (x11 : Int) (x12 : Int) {w : World} : (Instr.buildSlice 41 2 #[(0, .agg #[.string x1, .int .i64 x2, .int .i64 x3, .int .i64 x4, .int .i64 x5, .int .i64 x6]), (1, .agg #[.string x7, .int .i64 x8, .int .i64 x9, .int .i64 x10, .int .i64 x11, .int .i64 x12])]).run Tryz.prog w = .ok (.slice (some ⟨w.heap.size, 0, none⟩) 2 2) (w.alloc (.cells [.string x1, .int .i64 x2, .int .i64 x3, .int .i64 x4, .int .i64 x5, .int .i64 x6, .string x7, .int .i64 x8, .int .i64 x9, .int .i64 x10, .int .i64 x11, .int .i64 x12].toArray 111)) := by kernel_rfl
theorem bs_42_0_  {w : World} : (Instr.buildSlice 42 0 #[]).run Tryz.prog w = .ok (.slice (some ⟨w.heap.size, 0, none⟩) 0 0) (w.alloc (.cells [].toArray 99)) := by kernel_rfl
theorem Znk (x1 : ByteArray) (x2 : Int) (x3 : Int) (x4 : Int) (x5a : Option Addr) (x5n x5c : Nat) {w : World} : (Instr.buildSlice 42 1 #[(0, .agg #[.string x1, .int .i64 x2, .int .i64 x3, .int .i64 x4, .slice x5a x5n x5c])]).run Tryz.prog w = .ok (.slice (some ⟨w.heap.size, 0, none⟩) 1 1) (w.alloc (.cells [.string x1, .int .i64 x2, .int .i64 x3, .int .i64 x4, .slice x5a x5n x5c].toArray 99)) := by kernel_rfl
theorem Zfq (x1 : ByteArray) (x2 : Int) (x3 : Int) (x4 : Int) (x5a : Option Addr) (x5n x5c : Nat) (x6 : ByteArray) (x7 : Int) (x8 : Int) (x9 : Int) (x10a : Option Addr) (x10n x10c : Nat) (x11 : ByteArray) (x12 : Int) (x13 : Int) (x14 : Int) (x15a : Option Addr) (x15n x15c : Nat) {w : World} : (Instr.buildSlice 42 3 #[(0, .agg #[.string x1, .int .i64 x2, .int .i64 x3, .int .i64 x4, .slice x5a x5n x5c]), (1, .agg #[.string x6, .int .i64 x7, .int .i64 x8, .int .i64 x9, .slice x10a x10n x10c]), (2, .agg #[.string x11, .int .i64 x12, .int .i64 x13, .int .i64 x14, .slice x15a x15n x15c])]).run Tryz.prog w = .ok (.slice (some ⟨w.heap.size, 0, none⟩) 3 3) (w.alloc (.cells [.string x1, .int .i64 x2, .int .i64 x3, .int .i64 x4, .slice x5a x5n x5c, .string x6, .int .i64 x7, .int .i64 x8, .int .i64 x9, .slice x10a x10n x10c, .string x11, .int .i64 x12, .int .i64 x13, .int .i64 x14, .slice x15a x15n x15c].toArray 99)) := by kernel_rfl
theorem bs_43_0_  {w : World} : (Instr.buildSlice 43 0 #[]).run Tryz.prog w = .ok (.slice (some ⟨w.heap.size, 0, none⟩) 0 0) (w.alloc (.cells [].toArray 113)) := by kernel_rfl
theorem Znl (x1 : ByteArray) (x2 : Int) (x3 : Int) (x4 : Int) (x5 : Int) (x6 : Bool) {w : World} : (Instr.buildSlice 43 1 #[(0, .agg #[.string x1, .int .i64 x2, .int .i64 x3, .int .i64 x4, .int .i64 x5, .bool x6])]).run Tryz.prog w = .ok (.slice (some ⟨w.heap.size, 0, none⟩) 1 1) (w.alloc (.cells [.string x1, .int .i64 x2, .int .i64 x3, .int .i64 x4, .int .i64 x5, .bool x6].toArray 113)) := by kernel_rfl
theorem Zga (x1 : Int) (x2 : Int) (x3 : Int) {w : World} : (Instr.buildSlice 56 1 #[(0, .agg #[.int .i64 x1, .int .i64 x2, .int .i64 x3])]).run Tryz.prog w = .ok (.slice (some ⟨w.heap.size, 0, none⟩) 1 1) (w.alloc (.cells [.int .i64 x1, .int .i64 x2, .int .i64 x3].toArray 23)) := by kernel_rfl
theorem Zjk (x1 : Int) (x2 : Int) (x3 : Int) (x4 : Int) (x5 : Int) (x6 : Int) {w : World} : (Instr.buildSlice 56 2 #[(0, .agg #[.int .i64 x1, .int .i64 x2, .int .i64 x3]), (1, .agg #[.int .i64 x4, .int .i64 x5, .int .i64 x6])]).run Tryz.prog w = .ok (.slice (some ⟨w.heap.size, 0, none⟩) 2 2) (w.alloc (.cells [.int .i64 x1, .int .i64 x2, .int .i64 x3, .int .i64 x4, .int .i64 x5, .int .i64 x6].toArray 23)) := by kernel_rfl
theorem Zfr (x1 : Int) (x2 : Int) (x3 : Int) (x4 : Int) (x5 : Int) (x6 : Int) (x7 : Int) (x8 : Int) (x9 : Int) {w : World} : (Instr.buildSlice 56 3 #[(0, .agg #[.int .i64 x1, .int .i64 x2, .int .i64 x3]), (1, .agg #[.int .i64 x4, .int .i64 x5, .int .i64 x6]), (2, .agg #[.int .i64 x7, .int .i64 x8, .int .i64 x9])]).run Tryz.prog w = .ok (.slice (some ⟨w.heap.size, 0, none⟩) 3 3) (w.alloc (.cells [.int .i64 x1, .int .i64 x2, .int .i64 x3, .int .i64 x4, .int .i64 x5, .int .i64 x6, .int .i64 x7, .int .i64 x8, .int .i64 x9].toArray 23)) := by kernel_rfl
theorem Zjl  {w : World} : (Instr.buildSlice 65 0 #[]).run Tryz.prog w = .ok (.slice (some ⟨w.heap.size, 0, none⟩) 0 0) (w.alloc (.cells [].toArray 5)) := by kernel_rfl
theorem VQ (x1 : Int) {w : World} : (Instr.buildSlice 65 1 #[(0, .int .u8 x1)]).run Tryz.prog w = .ok (.slice (some ⟨w.heap.size, 0, none⟩) 1 1) (w.alloc (.cells [.int .u8 x1].toArray 5)) := by kernel_rfl
theorem Zfs (x1 : Int) (x2 : Int) (x3 : Int) {w : World} : (Instr.buildSlice 65 3 #[(0, .int .u8 x1), (1, .int .u8 x2), (2, .int .u8 x3)]).run Tryz.prog w = .ok (.slice (some ⟨w.heap.size, 0, none⟩) 3 3) (w.alloc (.cells [.int .u8 x1, .int .u8 x2, .int .u8 x3].toArray 5)) := by kernel_rfl
theorem J2 (x1 : Int) (x2 : Int) (x3 : Int) (x4 : Int) {w : World} : (Instr.buildSlice 97 1 #[(0, .agg #[.int .i64 x1, .int .i64 x2, .int .i64 x3, .int .i64 x4])]).run Tryz.prog w = .ok (.slice (some ⟨w.heap.size, 0, none⟩) 1 1) (w.alloc (.cells [.int .i64 x1, .int .i64 x2, .int .i64 x3, .int .i64 x4].toArray 96)) := by kernel_rfl
theorem Zjm (x1 : Int) (x2 : Int) (x3a : Option Addr) (x3n x3c : Nat) (w : World) : (Instr.field 184 (.agg #[.int .i64 x1, .int .u32 x2, .slice x3a x3n x3c]) 2).run Tryz.prog w = .ok (.slice x3a x3n x3c) w := by kernel_rfl
theorem Zjn (x1 : Int) (x2 : Int) (x3a : Option Addr) (x3n x3c : Nat) (x4 : Int) (x5 : Int) (w : World) : (Instr.field 189 (.agg #[.int .i64 x1, .int .u32 x2, .slice x3a x3n x3c, .int .i64 x4, .int .i64 x5]) 0).run Tryz.prog w = .ok (.agg #[.int .i64 x1, .int .u32 x2, .slice x3a x3n x3c]) w := by kernel_rfl
namespace Sx
def Z9 (n a b : Int) : Bool := decide (a ≤ n) && decide (n ≤ b)
theorem Zgb {c : Nat} (hc : c < 256) : (decide (97 ≤ c ||| 32) && decide (c ||| 32 ≤ 122)) = Zbc c := Zk4 ⟨c, hc⟩
theorem gcd_step (a b : Nat) (hb : b ≠ 0) : Nat.gcd a b = Nat.gcd b (a % b) := by rw [Nat.gcd_comm, Nat.gcd_rec, Nat.gcd_comm]
end Sx
open Sx
theorem YP (n a b : Int) (w0 : World) : Sp Tryz.prog 113 [.int .i64 n, .int .i64 a, .int .i64 b] w0 [] (RV (.bool (Z9 n a b))) := by
  refine ZA Tryz.func113 rfl Tryz.ntmps113 rfl (Own.refl _) ?_
  simp only [ZT]
  refine Zb <| Za <| gas rfl rfl <| gA <| Zb <| Za <| gm rfl rfl <| gm rfl rfl <| gr rfl (Wh rfl rfl) (Zx (fun hd1 => ?_) (fun hd1 => ?_))
  · refine gm rfl rfl <| Zi rfl rfl <| Zn rfl (Zm rfl) <| Zi rfl rfl <| Zn rfl (Zm rfl) <| Zi rfl rfl <| Zn rfl (Zah rfl rfl) <| gr rfl (ZB rfl rfl) <| gas rfl rfl <| gA <| Zp <| Zz (.inl rfl) Tryz.results113 rfl [] (by decide) ?_
    refine ⟨congrArg Value.bool (Eq.symm ?_), rfl⟩
    (simp [Z9, *]; done)
  refine gm rfl rfl <| Zs rfl rfl rfl <| Zs rfl rfl rfl <| Zs rfl rfl rfl <| gr rfl (Zq rfl rfl) <| gas rfl rfl <| gA <| Zp <| Zz (.inl rfl) Tryz.results113 rfl [] (by decide) ?_
  refine ⟨congrArg Value.bool (Eq.symm ?_), rfl⟩
  (simp [Z9, *]; done)
theorem Znm (c : Nat) (hc : c < 256) (w0 : World) : Sp Tryz.prog 128 [.int .u8 ((c : Nat) : Int)] w0 [] (RV (.bool (Zbc c))) := by
  refine ZA Tryz.func128 rfl Tryz.ntmps128 rfl (Own.refl _) ?_
  simp only [ZT]
  refine Zb <| Za <| gas rfl rfl <| gA <| Zb <| Za <| gm rfl rfl <| gr rfl (Zb8 (a := c) (b := 32) rfl rfl hc (by decide)) ?_
  refine gr rfl (Wh rfl rfl) (Zx (fun hd1 => ?_) (fun hd1 => ?_))
  · refine gm rfl rfl <| Zi rfl rfl <| Zn rfl (Zm rfl) <| Zi rfl rfl (Zn rfl (Zb8 (a := c) (b := 32) rfl rfl hc (by decide)) ?_)
    refine Zi rfl rfl <| Zn rfl (Zah rfl rfl) <| gr rfl (ZB rfl rfl) <| gas rfl rfl <| gA <| Zp <| Zz (.inl rfl) Tryz.results128 rfl [] (by decide) ?_
    refine ⟨congrArg Value.bool (Eq.symm ?_), rfl⟩
    rw [← Zgb hc]
    (rw [Bool.eq_iff_iff]; simp [*]; omega)
  refine gm rfl rfl <| Zs rfl rfl rfl <| Zs rfl rfl rfl <| Zs rfl rfl rfl <| gr rfl (Zq rfl rfl) <| gas rfl rfl <| gA <| Zp <| Zz (.inl rfl) Tryz.results128 rfl [] (by decide) ?_
  refine ⟨congrArg Value.bool (Eq.symm ?_), rfl⟩
  rw [← Zgb hc]
  (simp [*]; omega)
theorem digit_ok (c : Nat) (w0 : World) : Sp Tryz.prog 129 [.int .u8 ((c : Nat) : Int)] w0 [] (RV (.bool (Zd5 c))) := by
  refine ZA Tryz.func129 rfl Tryz.ntmps129 rfl (Own.refl _) ?_
  simp only [ZT]
  refine Zb <| Za <| gas rfl rfl <| gA <| Zb <| Za <| gm rfl rfl <| gr rfl (Wh rfl rfl) (Zx (fun hd1 => ?_) (fun hd1 => ?_))
  · refine gm rfl rfl <| Zi rfl rfl <| Zn rfl (Zm rfl) <| Zi rfl rfl <| Zn rfl (Zah rfl rfl) <| gr rfl (ZB rfl rfl) <| gas rfl rfl <| gA <| Zp <| Zz (.inl rfl) Tryz.results129 rfl [] (by decide) ?_
    refine ⟨congrArg Value.bool (Eq.symm ?_), rfl⟩
    (rw [Bool.eq_iff_iff]; simp [Zd5, *]; omega)
  refine gm rfl rfl <| Zs rfl rfl rfl <| Zs rfl rfl rfl <| gr rfl (Zq rfl rfl) <| gas rfl rfl <| gA <| Zp <| Zz (.inl rfl) Tryz.results129 rfl [] (by decide) ?_
  refine ⟨congrArg Value.bool (Eq.symm ?_), rfl⟩
  (simp [Zd5, *]; omega)
end Go.Proofs.YthcbcdjkfefnlaaGreatDoor
namespace Go.Proofs.YthcbcdjkfefnlaaGreatDoor
open Go.Gv
open Go.RowKit
open Go.Sn
open Sx
theorem Zmm (s : ByteArray) (hs : s.size ≤ 140737488355328) (w0 : World) : Sp Tryz.prog 115 [.string s] w0 [] (RV (.bool (nameB s))) := by
  refine ZA Tryz.func115 rfl Tryz.ntmps115 rfl (Own.refl _) ?_
  simp only [ZT]
  refine Zb <| Za <| gas rfl rfl <| gA <| Zb <| Zb <| Za <| gm rfl rfl <| gr rfl (V8 Tryz.underlying9 rfl) <| gm rfl rfl <| gA <| ZC <| Z0 (ι := Nat) [(0, _), (6, _)] [] (fun k => k ≤ s.size ∧ ∀ i, i < k → Zda s i = true) (fun k Fr0 => ((7, natV k) :: Fr0)) (fun k Fr0 => Fr0) (fun k => s.size - k) 0 (⟨Nat.zero_le _, fun i hi => absurd hi (Nat.not_lt_zero i)⟩) ⟨rfl, rfl, rfl, trivial⟩ ⟨[], by decide, rfl⟩ ?_
  rintro k ⟨hk, hall⟩
  refine Zb <| Za <| gr rfl (Z2 rfl rfl) (Zx (fun h8 => ?_) (fun h8 => ?_))
  · refine gA <| Zb <| Zj rfl <| Zu <| Ze <| Zb <| ZC <| Zb <| Za <| gm rfl rfl <| gas rfl rfl <| gA <| Zb <| Za <| gm rfl rfl <| gm rfl rfl <| gr rfl (Zcv Tryz.underlying9 rfl rfl (Zk5 s k (by omega))) ?_
    refine gas rfl rfl <| gA <| Zb <| Za <| gm rfl rfl <| Zl (ZD rfl (vf := []) (vc := []) rfl rfl Tryz.call128 (fun w1 ho => Znm (WK s k) (Zni s k) w1) ?_)
    rintro _ _ ⟨rfl, rfl⟩
    refine Z3 (fun hl => ?_) (fun hl => ?_)
    · refine gr rfl (rd_not rfl) <| gm rfl rfl <| Zs rfl rfl rfl <| Zs rfl rfl rfl <| Zs rfl rfl rfl <| Yk rfl rfl rfl <| Yk rfl rfl rfl <| Yk rfl rfl rfl <| Yk rfl rfl rfl <| Yk rfl rfl rfl <| Yk rfl rfl rfl <| Yk rfl rfl rfl <| Zs rfl rfl rfl <| gr rfl (Zq rfl rfl) <| gA <| Zk rfl <| Zu <| ZM <| Ze <| Za <| gr rfl (by exact ZQ (b := 1) rfl rfl (by omega)) ?_
      refine gm rfl rfl <| ZU <| Ze ?_
      exact ZZ (k + 1) ⟨⟨by omega, fun i hi => by
        rcases Nat.lt_or_eq_of_le (Nat.le_of_lt_succ hi) with h | rfl
        · exact hall i h
        · simp [Zda, *]⟩, by omega⟩ ⟨rfl, rfl, rfl, trivial⟩ ⟨[], by decide, rfl⟩
    refine gr rfl (rd_not rfl) <| gm rfl rfl <| Zi rfl rfl <| Zn rfl (Zm rfl) <| Zi rfl rfl (Zn rfl (Yt rfl rfl) (Zx (fun h18 => ?_) (fun h18 => ?_)))
    · replace h18 : k = 0 := by omega
      refine Zi rfl rfl <| Zn rfl (Zm rfl) <| Zs rfl rfl rfl <| Zs rfl rfl rfl <| Zs rfl rfl rfl <| Yk rfl rfl rfl <| Yk rfl rfl rfl <| Yk rfl rfl rfl <| Zs rfl rfl rfl <| Zi rfl rfl <| Zn rfl (ZB rfl rfl) <| gr rfl (ZB rfl rfl) <| gA <| Zj rfl <| Zb <| Za <| gas rfl rfl <| gA <| Zp <| Zw <| Zg <| Zg <| Zw <| Zg <| Zz (.inl rfl) Tryz.results115 rfl [] (by decide) ?_
      refine ⟨congrArg Value.bool (Eq.symm ?_), rfl⟩
      exact Zi2 (i := k) (by omega) (by (subst h18; simp [Zda, hl]; done))
    replace h18 : k ≠ 0 := by omega
    refine Zi rfl rfl <| Zn rfl (Zm rfl) <| Zi rfl rfl <| Zn rfl (Zm rfl) <| Zi rfl rfl (Zn rfl (ZX rfl rfl) (Zx (fun h21 => ?_) (fun h21 => ?_)))
    · replace h21 : WK s k ≠ 95 := by unfold WK; omega
      refine Zi rfl rfl <| Zn rfl (Zm rfl) <| Zi rfl rfl <| Zn rfl (Zm rfl) <| Zi rfl rfl (ZD rfl (vf := []) (vc := []) rfl rfl Tryz.call129 (fun w1 ho => digit_ok (WK s k) w1) ?_)
      rintro _ _ ⟨rfl, rfl⟩
      refine Z3 (fun hdg => ?_) (fun hdg => ?_)
      · refine Zi rfl rfl <| Zn rfl (rd_not rfl) <| Zi rfl rfl <| Zn rfl (ZB rfl rfl) <| Zi rfl rfl <| Zn rfl (Zq rfl rfl) <| gr rfl (ZB rfl rfl) <| gA <| Zk rfl <| Zu <| ZM <| Ze <| Za <| gr rfl (by exact ZQ (b := 1) rfl rfl (by omega)) ?_
        refine gm rfl rfl <| ZU <| Ze ?_
        exact ZZ (k + 1) ⟨⟨by omega, fun i hi => by
          rcases Nat.lt_or_eq_of_le (Nat.le_of_lt_succ hi) with h | rfl
          · exact hall i h
          · simp [Zda, *]⟩, by omega⟩ ⟨rfl, rfl, rfl, trivial⟩ ⟨[], by decide, rfl⟩
      refine Zi rfl rfl <| Zn rfl (rd_not rfl) <| Zi rfl rfl <| Zn rfl (ZB rfl rfl) <| Zi rfl rfl <| Zn rfl (Zq rfl rfl) <| gr rfl (ZB rfl rfl) <| gA <| Zj rfl <| Zb <| Za <| gas rfl rfl <| gA <| Zp <| Zw <| Zg <| Zg <| Zw <| Zg <| Zz (.inl rfl) Tryz.results115 rfl [] (by decide) ?_
      refine ⟨congrArg Value.bool (Eq.symm ?_), rfl⟩
      exact Zi2 (i := k) (by omega) (by simp [Zda, *])
    replace h21 : WK s k = 95 := by unfold WK; omega
    refine Zi rfl rfl <| Zn rfl (Zm rfl) <| Zs rfl rfl rfl <| Zs rfl rfl rfl <| Zs rfl rfl rfl <| Zi rfl rfl <| Zn rfl (Zq rfl rfl) <| Zi rfl rfl <| Zn rfl (Zq rfl rfl) <| gr rfl (ZB rfl rfl) <| gA <| Zk rfl <| Zu <| ZM <| Ze <| Za <| gr rfl (by exact ZQ (b := 1) rfl rfl (by omega)) ?_
    refine gm rfl rfl <| ZU <| Ze ?_
    exact ZZ (k + 1) ⟨⟨by omega, fun i hi => by
      rcases Nat.lt_or_eq_of_le (Nat.le_of_lt_succ hi) with h | rfl
      · exact hall i h
      · simp [Zda, *]⟩, by omega⟩ ⟨rfl, rfl, rfl, trivial⟩ ⟨[], by decide, rfl⟩
  refine gA <| Zb <| Zk rfl <| Z1 <| Zr <| Zr <| ZE <| Ze <| Zb <| Za <| gm rfl rfl <| gr rfl (V8 Tryz.underlying9 rfl) <| gr rfl (Wh rfl rfl) (Zx (fun hd1 => ?_) (fun hd1 => ?_))
  · refine gm rfl rfl <| Zi rfl rfl <| Zn rfl (Zm rfl) <| Zi rfl rfl <| Zn rfl (V8 Tryz.underlying9 rfl) <| Zi rfl rfl <| Zn rfl (Zah rfl rfl) <| gr rfl (ZB rfl rfl) <| gas rfl rfl <| gA <| Zp <| Zz (.inl rfl) Tryz.results115 rfl [] (by decide) ?_
    refine ⟨congrArg Value.bool (Eq.symm ?_), rfl⟩
    rw [Zf4 (fun i hi => hall i (by omega))]
    (rw [Bool.eq_iff_iff]; simp; omega)
  refine gm rfl rfl <| Zs rfl rfl rfl <| Zs rfl rfl rfl <| Zs rfl rfl rfl <| gr rfl (Zq rfl rfl) <| gas rfl rfl <| gA <| Zp <| Zz (.inl rfl) Tryz.results115 rfl [] (by decide) ?_
  refine ⟨congrArg Value.bool (Eq.symm ?_), rfl⟩
  rw [Zf4 (fun i hi => hall i (by omega))]
  (simp; omega)
end Go.Proofs.YthcbcdjkfefnlaaGreatDoor
namespace Go.Proofs.YthcbcdjkfefnlaaGreatDoor
open Go.Gv
open Go.RowKit
open Go.Sn
open Go.Shelf Go.Sort Go.Proofs
def ren171 : Ren := ⟨(fun x => match x with | 171 => 144 | 243 => 153 | 246 => 145 | 283 => 154 | 284 => 155 | 285 => 156 | 286 => 157 | 129 => 141 | 317 => 159 | 318 => 160 | 319 => 161 | 320 => 162 | 337 => 163 | 338 => 164 | n => n), (fun x => match x with | 3 => 3 | 9 => 9 | 2 => 2 | 4 => 4 | 171 => 232 | 0 => 0 | 53 => 207 | 37 => 65 | 5 => 5 | 173 => 234 | 212 => 241 | 51 => 136 | 20 => 20 | 213 => 242 | 46 => 192 | 232 => 243 | 233 => 244 | n => n), (fun x => match x with | 17 => 1 | 18 => 2 | 19 => 3 | n => n)⟩
theorem laid171 : Lays.n171 Tryz.prog ren171 := { mixed := by kernel_rfl, f129 := Eq.trans Tryz.func141 (congrArg some (by kernel_rfl)), f171 := Eq.trans Tryz.func144 (congrArg some (by kernel_rfl)), f243 := Eq.trans Tryz.func153 (congrArg some (by kernel_rfl)), f246 := Eq.trans Tryz.func145 (congrArg some (by kernel_rfl)), f283 := Eq.trans Tryz.func154 (congrArg some (by kernel_rfl)), f284 := Eq.trans Tryz.func155 (congrArg some (by kernel_rfl)), f285 := Eq.trans Tryz.func156 (congrArg some (by kernel_rfl)), f286 := Eq.trans Tryz.func157 (congrArg some (by kernel_rfl)), f317 := Eq.trans Tryz.func159 (congrArg some (by kernel_rfl)), f318 := Eq.trans Tryz.func160 (congrArg some (by kernel_rfl)), f319 := Eq.trans Tryz.func161 (congrArg some (by kernel_rfl)), f320 := Eq.trans Tryz.func162 (congrArg some (by kernel_rfl)), f337 := Eq.trans Tryz.func163 (congrArg some (by kernel_rfl)), f338 := Eq.trans Tryz.func164 (congrArg some (by kernel_rfl)), t0 := Tryz.underlying0, a0 := Tryz.isAgg0, z0 := Tryz.sizeOf0, v0 := Tryz.zeroValue0, t2 := Tryz.underlying2, a2 := Tryz.isAgg2, z2 := Tryz.sizeOf2, v2 := Tryz.zeroValue2, t3 := Tryz.underlying3, a3 := Tryz.isAgg3, z3 := Tryz.sizeOf3, v3 := Tryz.zeroValue3, t4 := Tryz.underlying4, a4 := Tryz.isAgg4, z4 := Tryz.sizeOf4, v4 := Tryz.zeroValue4, t5 := Tryz.underlying5, a5 := Tryz.isAgg5, z5 := Tryz.sizeOf5, v5 := Tryz.zeroValue5, t9 := Tryz.underlying9, a9 := Tryz.isAgg9, z9 := Tryz.sizeOf9, v9 := Tryz.zeroValue9, t20 := Tryz.underlying20, a20 := Tryz.isAgg20, z20 := Tryz.sizeOf20, v20 := Tryz.zeroValue20, t37 := Tryz.underlying65, a37 := Tryz.isAgg65, z37 := Tryz.sizeOf65, v37 := Tryz.zeroValue65, t46 := Tryz.underlying192, a46 := Tryz.isAgg192, z46 := Tryz.sizeOf192, v46 := Tryz.zeroValue192, t51 := Tryz.underlying136, a51 := Tryz.isAgg136, z51 := Tryz.sizeOf136, v51 := Tryz.zeroValue136, t53 := Tryz.underlying207, a53 := Tryz.isAgg207, z53 := Tryz.sizeOf207, v53 := Tryz.zeroValue207, t171 := Tryz.underlying232, a171 := Tryz.isAgg232, z171 := Tryz.sizeOf232, v171 := Tryz.zeroValue232, t173 := Tryz.underlying234, a173 := Tryz.isAgg234, z173 := Tryz.sizeOf234, v173 := Tryz.zeroValue234, t212 := Tryz.underlying241, a212 := Tryz.isAgg241, z212 := Tryz.sizeOf241, v212 := Tryz.zeroValue241, t213 := Tryz.underlying242, a213 := Tryz.isAgg242, z213 := Tryz.sizeOf242, t232 := Tryz.underlying243, a232 := Tryz.isAgg243, z232 := Tryz.sizeOf243, v232 := Tryz.zeroValue243, t233 := Tryz.underlying244, a233 := Tryz.isAgg244, z233 := Tryz.sizeOf244, v233 := Tryz.zeroValue244, g17 := by kernel_rfl, g18 := by kernel_rfl, g19 := by kernel_rfl }
def ren173 : Ren := ⟨(fun x => match x with | 173 => 130 | 246 => 145 | 283 => 154 | 284 => 155 | 285 => 156 | 286 => 157 | 129 => 141 | 317 => 159 | 318 => 160 | 319 => 161 | 320 => 162 | 337 => 163 | 338 => 164 | n => n), (fun x => match x with | 2 => 2 | 3 => 3 | 9 => 9 | 4 => 4 | 171 => 232 | 0 => 0 | 53 => 207 | 37 => 65 | 5 => 5 | 173 => 234 | 212 => 241 | 51 => 136 | 20 => 20 | 213 => 242 | 46 => 192 | 232 => 243 | 233 => 244 | n => n), (fun x => match x with | 17 => 1 | 18 => 2 | 19 => 3 | n => n)⟩
theorem laid173 : Lays.n173 Tryz.prog ren173 := { mixed := by kernel_rfl, f129 := Eq.trans Tryz.func141 (congrArg some (by kernel_rfl)), f173 := Eq.trans Tryz.func130 (congrArg some (by kernel_rfl)), f246 := Eq.trans Tryz.func145 (congrArg some (by kernel_rfl)), f283 := Eq.trans Tryz.func154 (congrArg some (by kernel_rfl)), f284 := Eq.trans Tryz.func155 (congrArg some (by kernel_rfl)), f285 := Eq.trans Tryz.func156 (congrArg some (by kernel_rfl)), f286 := Eq.trans Tryz.func157 (congrArg some (by kernel_rfl)), f317 := Eq.trans Tryz.func159 (congrArg some (by kernel_rfl)), f318 := Eq.trans Tryz.func160 (congrArg some (by kernel_rfl)), f319 := Eq.trans Tryz.func161 (congrArg some (by kernel_rfl)), f320 := Eq.trans Tryz.func162 (congrArg some (by kernel_rfl)), f337 := Eq.trans Tryz.func163 (congrArg some (by kernel_rfl)), f338 := Eq.trans Tryz.func164 (congrArg some (by kernel_rfl)), t0 := Tryz.underlying0, a0 := Tryz.isAgg0, z0 := Tryz.sizeOf0, v0 := Tryz.zeroValue0, t2 := Tryz.underlying2, a2 := Tryz.isAgg2, z2 := Tryz.sizeOf2, v2 := Tryz.zeroValue2, t3 := Tryz.underlying3, a3 := Tryz.isAgg3, z3 := Tryz.sizeOf3, v3 := Tryz.zeroValue3, t4 := Tryz.underlying4, a4 := Tryz.isAgg4, z4 := Tryz.sizeOf4, v4 := Tryz.zeroValue4, t5 := Tryz.underlying5, a5 := Tryz.isAgg5, z5 := Tryz.sizeOf5, v5 := Tryz.zeroValue5, t9 := Tryz.underlying9, a9 := Tryz.isAgg9, z9 := Tryz.sizeOf9, v9 := Tryz.zeroValue9, t20 := Tryz.underlying20, a20 := Tryz.isAgg20, z20 := Tryz.sizeOf20, v20 := Tryz.zeroValue20, t37 := Tryz.underlying65, a37 := Tryz.isAgg65, z37 := Tryz.sizeOf65, v37 := Tryz.zeroValue65, t46 := Tryz.underlying192, a46 := Tryz.isAgg192, z46 := Tryz.sizeOf192, v46 := Tryz.zeroValue192, t51 := Tryz.underlying136, a51 := Tryz.isAgg136, z51 := Tryz.sizeOf136, v51 := Tryz.zeroValue136, t53 := Tryz.underlying207, a53 := Tryz.isAgg207, z53 := Tryz.sizeOf207, v53 := Tryz.zeroValue207, t171 := Tryz.underlying232, a171 := Tryz.isAgg232, z171 := Tryz.sizeOf232, v171 := Tryz.zeroValue232, t173 := Tryz.underlying234, a173 := Tryz.isAgg234, z173 := Tryz.sizeOf234, v173 := Tryz.zeroValue234, t212 := Tryz.underlying241, a212 := Tryz.isAgg241, z212 := Tryz.sizeOf241, v212 := Tryz.zeroValue241, t213 := Tryz.underlying242, a213 := Tryz.isAgg242, z213 := Tryz.sizeOf242, t232 := Tryz.underlying243, a232 := Tryz.isAgg243, z232 := Tryz.sizeOf243, v232 := Tryz.zeroValue243, t233 := Tryz.underlying244, a233 := Tryz.isAgg244, z233 := Tryz.sizeOf244, v233 := Tryz.zeroValue244, g17 := by kernel_rfl, g18 := by kernel_rfl, g19 := by kernel_rfl }
theorem Zjo {f : Nat} {args : List Value} {w0 : World} {v0 : Value} (h : Calls Tryz.prog f args.toArray w0 fun e w' => e = .returned v0 ∧ w' = w0) : Sp Tryz.prog f args w0 [] (RV v0) := by
  unfold Sp
  refine h.mono ?_
  rintro e w' ⟨rfl, rfl⟩
  exact ⟨v0, [], rfl, ⟨rfl, rfl⟩, Own.refl _⟩
theorem Zdh (i : Nat) (hi : i < 100) (w0 : World) : Sp Tryz.prog 144 [natV i] w0 [] (RV (.string (X0 i))) := Zjo (Any.strconv_Itoa_small laid171 i hi w0)
theorem Znn (i : Nat) (hi : i < 100) (w0 : World) : Sp Tryz.prog 130 [natV i, natV 10] w0 [] (RV (.string (X0 i))) := Zjo (Any.strconv_FormatInt_10_small laid173 i hi w0)
end Go.Proofs.YthcbcdjkfefnlaaGreatDoor
namespace Go.Proofs.YthcbcdjkfefnlaaGreatDoor
open Go.Gv
open Go.RowKit
open Go.Sn
open Sx
namespace Sx
theorem Zno {a b : Nat} : feetB (a : Int) (b : Int) = (decide (1 ≤ b) && decide (b ≤ 15) && decide (1 ≤ a) && decide (a ≤ 64 * b) && decide (Nat.gcd a b = 1)) := by
  unfold feetB
  simp only [Int.toNat_natCast]
  congr 1
  congr 1
  · congr 1
    · congr 1
      · rw [Bool.eq_iff_iff]; simp; omega
      · rw [Bool.eq_iff_iff]; simp; omega
    · rw [Bool.eq_iff_iff]; simp; omega
  · rw [Bool.eq_iff_iff]; simp; omega
theorem Zbp (i : Nat) (hi : i < 100) : (X0 i).size ≤ 3 := by
  show (Lib.decDigits i).toArray.size ≤ 3
  by_cases h : i < 10
  · rw [Lib.decDigits_one h]; simp
  · rw [Lib.decDigits_two h hi]; simp
theorem Va (a b : ByteArray) : (a ++ b).size = a.size + b.size := ByteArray.size_append
end Sx
open Sx
theorem gcd_ok (a b : Nat) (ha : a ≤ 9223372036854775807) (hb : b ≤ 9223372036854775807) (w0 : World) : Sp Tryz.prog 152 [natV a, natV b] w0 [] (RV (natV (Nat.gcd a b))) := by
  refine ZA Tryz.func152 rfl Tryz.ntmps152 rfl (Own.refl _) ?_
  simp only [ZT]
  refine Zb <| Za <| gas rfl rfl <| gA <| Zb <| ZC <| Z0 (ι := Nat × Nat) [] [] (fun j => Nat.gcd j.1 j.2 = Nat.gcd a b ∧ j.1 ≤ 9223372036854775807 ∧ j.2 ≤ 9223372036854775807) (fun j Fr0 => ((0, natV j.1) :: (1, natV j.2) :: Fr0)) (fun j Fr0 => Fr0) (fun j => j.2) (a, b) (⟨rfl, ha, hb⟩) ⟨rfl, rfl, trivial⟩ ⟨[], by decide, rfl⟩ ?_
  rintro ⟨x, y⟩ ⟨hg, hx, hy⟩
  simp only at hg hx hy ⊢
  refine Zb <| Zb <| Za <| gm rfl rfl <| gr rfl (ZX rfl rfl) (Zx (fun h6 => ?_) (fun h6 => ?_))
  · refine gA <| Zj rfl <| Zu <| Ze <| ZC <| ZP [] true 5 rfl <| Zc 0 rfl rfl ⟨[], by decide, rfl⟩ (Zf (Zm rfl)) ?_
    refine Zc 1 rfl rfl ⟨[], by decide, rfl⟩ (Zf (Zm rfl)) ?_
    refine Zc 2 rfl rfl ⟨[], by decide, rfl⟩ (Zf (Zm rfl)) ?_
    refine Zc 3 rfl rfl ⟨[], by decide, rfl⟩ (Zf (by exact Vh rfl rfl (by omega))) ?_
    refine Zc 4 rfl rfl ⟨[], by decide, rfl⟩ (Zf (ZV rfl)) ?_
    refine Zc 5 rfl rfl ⟨[], by decide, rfl⟩ (Zf (ZV rfl)) ?_
    refine ZS (.inr ⟨[], by decide, rfl⟩) ?_
    refine ZM <| Ze ?_
    exact ZZ ((y, x % y)) ⟨⟨by simp only; rw [← hg]; exact (gcd_step x y (by omega)).symm, hy, by simp only; have := Nat.mod_lt x (show 0 < y by omega); omega⟩, Nat.mod_lt x (by omega)⟩ ⟨rfl, rfl, trivial⟩ ⟨[], by decide, rfl⟩
  refine gA <| Zk rfl <| Z1 <| Zr <| Zr <| ZE <| Ze <| Zb <| Za <| gm rfl rfl <| gas rfl rfl <| gA <| Zp <| Zz (.inl rfl) Tryz.results152 rfl [] (by decide) ?_
  refine ⟨?_, rfl⟩
  obtain rfl : y = 0 := by omega
  rw [← hg, Nat.gcd_zero_right]
theorem valid_ok (num den : Int) (w0 : World) : Sp Tryz.prog 143 [.agg #[.int .i64 num, .int .i64 den]] w0 [] (RV (.bool (feetB num den))) := by
  refine ZA Tryz.func143 rfl Tryz.ntmps143 rfl (Own.refl _) ?_
  simp only [ZT]
  refine Zb <| Za <| Zl (Yc rfl rfl rfl (fun b1 => ?_))
  refine gas rfl rfl <| gA <| Zb <| Za <| gr rfl (Zd rfl (Vo _)) <| gr rfl (Zh Tryz.underlying3 rfl rfl (by exact Zo 0 rfl rfl)) ?_
  refine gr rfl (Wh rfl rfl) (Zx (fun h5 => ?_) (fun h5 => ?_))
  · refine gm rfl rfl <| Zi rfl rfl <| Zn rfl (Zd rfl (Vo _)) <| Zi rfl rfl (Zn rfl (Zh Tryz.underlying3 rfl rfl (by exact Zo 0 rfl rfl)) ?_)
    refine Zi rfl rfl (Zn rfl (Zah rfl rfl) (Zx (fun h9 => ?_) (fun h9 => ?_)))
    · refine gr rfl (ZB rfl rfl) <| gm rfl rfl <| Zi rfl rfl <| Zn rfl (Zd rfl (Zbh _)) <| Zi rfl rfl (Zn rfl (Zh Tryz.underlying3 rfl rfl (by exact Zo 0 rfl rfl)) ?_)
      refine Zi rfl rfl (Zn rfl (Wh rfl rfl) (Zx (fun h14 => ?_) (fun h14 => ?_)))
      · refine gr rfl (ZB rfl rfl) <| gm rfl rfl <| Zi rfl rfl <| Zn rfl (Zd rfl (Zbh _)) <| Zi rfl rfl (Zn rfl (Zh Tryz.underlying3 rfl rfl (by exact Zo 0 rfl rfl)) ?_)
        refine Zi rfl rfl <| Zn rfl (Zd rfl (Vo _)) <| Zi rfl rfl (Zn rfl (Zh Tryz.underlying3 rfl rfl (by exact Zo 0 rfl rfl)) ?_)
        refine Zi rfl rfl (Zn rfl (by exact Zg6 rfl rfl (by omega) (by omega)) ?_)
        refine Zi rfl rfl (Zn rfl (Zah rfl rfl) (Zx (fun h22 => ?_) (fun h22 => ?_)))
        · obtain ⟨a, rfl⟩ : ∃ a : Nat, num = (a : Int) := ⟨num.toNat, by omega⟩
          obtain ⟨b, rfl⟩ : ∃ b : Nat, den = (b : Int) := ⟨den.toNat, by omega⟩
          refine gr rfl (ZB rfl rfl) <| gm rfl rfl <| Zi rfl rfl <| Zn rfl (Zd rfl (Zbh _)) <| Zi rfl rfl (Zn rfl (Zh Tryz.underlying3 rfl rfl (by exact Zo 0 rfl rfl)) ?_)
          refine Zi rfl rfl <| Zn rfl (Zd rfl (Vo _)) <| Zi rfl rfl (Zn rfl (Zh Tryz.underlying3 rfl rfl (by exact Zo 0 rfl rfl)) ?_)
          refine Zi rfl rfl (ZD rfl (vf := []) (vc := []) rfl rfl Tryz.call152 (fun w1 ho => gcd_ok a b (by omega) (by omega) w1) ?_)
          rintro _ _ ⟨rfl, rfl⟩
          refine Zi rfl rfl <| Zn rfl (Yt rfl rfl) <| gr rfl (ZB rfl rfl) <| gas rfl rfl <| gA <| Zp <| Zz (.inl rfl) Tryz.results143 rfl [] (by decide) ?_
          refine ⟨congrArg Value.bool (Eq.symm ?_), rfl⟩
          rw [Zno]
          rw [Bool.eq_iff_iff]; simp; omega
        refine gr rfl (ZB rfl rfl) <| gm rfl rfl <| Zs rfl rfl rfl <| Zs rfl rfl rfl <| Zs rfl rfl rfl <| Zs rfl rfl rfl <| Zs rfl rfl rfl <| Zs rfl rfl rfl <| gr rfl (Zq rfl rfl) <| gas rfl rfl <| gA <| Zp <| Zz (.inl rfl) Tryz.results143 rfl [] (by decide) ?_
        refine ⟨congrArg Value.bool (Eq.symm ?_), rfl⟩
        unfold feetB
        rw [Bool.eq_false_iff]
        simp
        omega
      refine gr rfl (ZB rfl rfl) <| gm rfl rfl <| Zs rfl rfl rfl <| Zs rfl rfl rfl <| Zs rfl rfl rfl <| Zs rfl rfl rfl <| Zs rfl rfl rfl <| Zs rfl rfl rfl <| gr rfl (Zq rfl rfl) <| gm rfl rfl <| Zs rfl rfl rfl <| Zs rfl rfl rfl <| Zs rfl rfl rfl <| Zs rfl rfl rfl <| Zs rfl rfl rfl <| Zs rfl rfl rfl <| gr rfl (Zq rfl rfl) <| gas rfl rfl <| gA <| Zp <| Zz (.inl rfl) Tryz.results143 rfl [] (by decide) ?_
      refine ⟨congrArg Value.bool (Eq.symm ?_), rfl⟩
      unfold feetB
      rw [Bool.eq_false_iff]
      simp
      omega
    refine gr rfl (ZB rfl rfl) <| gm rfl rfl <| Zs rfl rfl rfl <| Zs rfl rfl rfl <| Zs rfl rfl rfl <| gr rfl (Zq rfl rfl) <| gm rfl rfl <| Zs rfl rfl rfl <| Zs rfl rfl rfl <| Zs rfl rfl rfl <| Zs rfl rfl rfl <| Zs rfl rfl rfl <| Zs rfl rfl rfl <| gr rfl (Zq rfl rfl) <| gm rfl rfl <| Zs rfl rfl rfl <| Zs rfl rfl rfl <| Zs rfl rfl rfl <| Zs rfl rfl rfl <| Zs rfl rfl rfl <| Zs rfl rfl rfl <| gr rfl (Zq rfl rfl) <| gas rfl rfl <| ZU <| Ze ?_
    refine Zp <| Zz (.inl rfl) Tryz.results143 rfl [] (by decide) ?_
    refine ⟨congrArg Value.bool (Eq.symm ?_), rfl⟩
    unfold feetB
    rw [Bool.eq_false_iff]
    simp
    omega
  refine gm rfl rfl <| Zs rfl rfl rfl <| Zs rfl rfl rfl <| Zs rfl rfl rfl <| gr rfl (Zq rfl rfl) <| gm rfl rfl <| Zs rfl rfl rfl <| Zs rfl rfl rfl <| Zs rfl rfl rfl <| gr rfl (Zq rfl rfl) <| gm rfl rfl <| Zs rfl rfl rfl <| Zs rfl rfl rfl <| Zs rfl rfl rfl <| Zs rfl rfl rfl <| Zs rfl rfl rfl <| Zs rfl rfl rfl <| gr rfl (Zq rfl rfl) <| gm rfl rfl <| Zs rfl rfl rfl <| Zs rfl rfl rfl <| Zs rfl rfl rfl <| Zs rfl rfl rfl <| Zs rfl rfl rfl <| Zs rfl rfl rfl ?_
  refine gr rfl (Zq rfl rfl) <| gas rfl rfl <| gA <| Zp <| Zz (.inl rfl) Tryz.results143 rfl [] (by decide) ?_
  refine ⟨congrArg Value.bool (Eq.symm ?_), rfl⟩
  unfold feetB
  rw [Bool.eq_false_iff]
  simp
  omega
theorem Znp (i : Nat) (hi : i < 100) (w0 : World) : Sp Tryz.prog 116 [natV i] w0 [] (RV (.string (X0 i))) := by
  refine ZA Tryz.func116 rfl Tryz.ntmps116 rfl (Own.refl _) ?_
  simp only [ZT]
  refine Zb <| Za <| gas rfl rfl <| gA <| Zb <| Za <| gm rfl rfl <| Zl (ZD rfl (vf := []) (vc := []) rfl rfl Tryz.call130 (fun w1 ho => Znn i hi w1) ?_)
  rintro _ _ ⟨rfl, rfl⟩
  refine gas rfl rfl <| gA <| Zp <| Zz (.inl rfl) Tryz.results116 rfl [] (by decide) ?_
  exact ⟨rfl, rfl⟩
namespace Sx
def CB (s : Org) (cb mb : Nat) : HL := .blk cb [.slice s.da s.ds.length s.dc, .slice s.ra s.rs.length s.rc, .slice s.sa s.ss.length s.sc, .slice s.ca s.cs.length s.cc, .map (some mb)] 151
def OB (mb : Nat) (K : List ByteArray) : HL := .obj mb (JA K)
def RC (s : Org) (cb mb : Nat) (v0 : Int) (K : List ByteArray) : Value → List HL → Prop := fun v L => v = .int .i64 v0 ∧ L = [CB s cb mb, OB mb K]
end Sx
open Sx
theorem Zbq (s : Org) (cb mb : Nat) (K : List ByteArray) (kind name : ByteArray) (hk : kind.size ≤ 1000) (hz : name.size ≤ 140737488355328) (w0 : World) (hown : Own w0 [cb, mb] w0 [CB s cb mb, OB mb K]) : Sp Tryz.prog 112 [.pointer (some ⟨cb, 0, none⟩), .string kind, .string name] w0 [cb, mb] (RC s cb mb (YQ K kind name) (Xv K kind name)) := by
  unfold CB OB at hown
  refine ZA Tryz.func112 rfl Tryz.ntmps112 rfl hown ?_
  simp only [ZT]
  refine Zb <| Za <| gas rfl rfl <| gA <| Zb <| Zb <| Za <| gm rfl rfl <| Zl (ZD rfl (vf := []) (vc := []) rfl rfl Tryz.call115 (fun w1 ho => Zmm name hz w1) ?_)
  rintro _ _ ⟨rfl, rfl⟩
  refine Z3 (fun hn => ?_) (fun hn => ?_)
  · obtain ⟨hn1, hn2⟩ := nameB_le hn
    refine gr rfl (rd_not rfl) <| gA <| Zk rfl <| Zu <| Ze <| Zb <| Zb <| Za <| gm rfl rfl <| gnc rfl rfl <| gr rfl (Zd rfl (Zjc _)) <| gr rfl (Zh Tryz.underlying149 rfl rfl (by exact Zo 0 rfl rfl)) ?_
    refine gm rfl rfl <| gr rfl (XM Tryz.underlying9 rfl rfl (by (show kind.size + 1 ≤ _; omega))) ?_
    refine gm rfl rfl <| gr rfl (XM Tryz.underlying9 rfl rfl (by (rw [Va]; show (kind.size + 1) + name.size ≤ _; omega))) ?_
    refine gr rfl (rd_seen 1 rfl Tryz.underlying149 Tryz.underlying9 ty_4 rfl rfl) <| Z3 (fun hm => ?_) (fun hm => ?_)
    · change Zcb (W9 kind name) K = true at hm
      refine gA <| Zj rfl <| Zb <| Za <| gas rfl rfl <| gA <| Zp <| Zg <| Zz (.inl rfl) Tryz.results112 rfl [0, 1] (by decide) ?_
      have hp : YQ K kind name = 8 := by unfold YQ; rw [if_neg (by rw [hn]; decide), if_pos hm]
      have hk : Xv K kind name = K := by unfold Xv; rw [if_neg (by rw [hp]; decide)]
      rw [hp, hk]
      exact ⟨rfl, rfl⟩
    change Zcb (W9 kind name) K = false at hm
    refine gA <| Zk rfl <| Zu <| Ze <| Zb <| Za <| gm rfl rfl <| gnc rfl rfl <| gr rfl (Zd rfl (Zjc _)) <| gr rfl (Zh Tryz.underlying149 rfl rfl (by exact Zo 0 rfl rfl)) ?_
    refine gm rfl rfl <| gr rfl (XM Tryz.underlying9 rfl rfl (by (show kind.size + 1 ≤ _; omega))) ?_
    refine gm rfl rfl <| gr rfl (XM Tryz.underlying9 rfl rfl (by (rw [Va]; show (kind.size + 1) + name.size ≤ _; omega))) ?_
    refine Zl <| op_see 1 Tryz.underlying149 Tryz.underlying9 rfl rfl rfl rfl hm rfl <| gA <| Zb <| Za <| gas rfl rfl <| gA <| Zp <| Zz (.inl rfl) Tryz.results112 rfl [0, 1] (by decide) ?_
    have hp : YQ K kind name = 0 := by unfold YQ; rw [if_neg (by rw [hn]; decide), if_neg (by rw [hm]; decide)]
    have hk : Xv K kind name = K ++ [W9 kind name] := by unfold Xv; rw [if_pos hp]
    rw [hp, hk]
    exact ⟨rfl, rfl⟩
  refine gr rfl (rd_not rfl) <| gA <| Zj rfl <| Zb <| Za <| gas rfl rfl <| gA <| Zp <| Zg <| Zz (.inl rfl) Tryz.results112 rfl [0, 1] (by decide) ?_
  have hp : YQ K kind name = 6 := by unfold YQ; rw [if_pos hn]
  have hk : Xv K kind name = K := by unfold Xv; rw [if_neg (by rw [hp]; decide)]
  rw [hp, hk]
  exact ⟨rfl, rfl⟩
theorem Zjp (s : Org) (cb mb : Nat) (K : List ByteArray) (d : Dv) (hz : d.name.size ≤ 140737488355328) (w0 : World) (hown : Own w0 [cb, mb] w0 [CB s cb mb, OB mb K]) : Sp Tryz.prog 78 [.pointer (some ⟨cb, 0, none⟩), d.val] w0 [cb, mb] (RC s cb mb (dvE K d) (dvK K d)) := by
  unfold CB OB at hown
  refine ZA Tryz.func78 rfl Tryz.ntmps78 rfl hown ?_
  simp only [ZT]
  refine Zb <| Za <| Zl (Yc rfl rfl rfl (fun b3 => ?_))
  refine gas rfl rfl <| gA <| Zb <| Zb <| Za <| gm rfl rfl <| gr rfl (Zd rfl (fa_109_0 _)) <| gr rfl (Zh Tryz.underlying9 rfl rfl (by exact Zo 0 rfl rfl)) ?_
  refine Zl (Yf [1, 2] [0] rfl (vf := []) (vc := []) rfl rfl Tryz.call112 (by decide) rfl (fun w how hc => Zbq s cb mb K Zbo d.name (by decide) hz w hc) ?_)
  rintro _ _ ⟨rfl, rfl⟩
  refine gas rfl rfl <| gA <| Zb <| Za <| gm rfl rfl <| gr rfl (ZX rfl rfl) (Zx (fun hnm => ?_) (fun hnm => ?_))
  · refine gA <| Zj rfl <| Zb <| Za <| gm rfl rfl <| gas rfl rfl <| gA <| Zp <| Zg <| Zz (.inl rfl) Tryz.results78 rfl [0, 1] (by decide) ?_
    refine ⟨congrArg (Value.int .i64) (Eq.symm ?_), rfl⟩
    unfold dvE
    rw [if_pos hnm]
  refine gA <| Zk rfl <| Zu <| Ze <| Zb <| Zb <| Za <| gr rfl (Zd rfl (Zbi _)) <| gr rfl (Zh Tryz.underlying3 rfl rfl (by exact Zo 2 rfl rfl)) ?_
  refine Zl (ZD rfl (vf := []) (vc := []) rfl rfl Tryz.call113 (fun w1 ho => YP _ _ _ w1) ?_)
  rintro _ _ ⟨rfl, rfl⟩
  refine Z3 (fun hw15 => ?_) (fun hw15 => ?_)
  · refine gr rfl (rd_not rfl) <| gm rfl rfl <| Zi rfl rfl <| Zn rfl (Zd rfl (Zeb _)) <| Zi rfl rfl (Zn rfl (Zh Tryz.underlying3 rfl rfl (by exact Zo 2 rfl rfl)) ?_)
    refine Zi rfl rfl <| Zn rfl (Zd rfl (Zbi _)) <| Zi rfl rfl (Zn rfl (Zh Tryz.underlying3 rfl rfl (by exact Zo 2 rfl rfl)) ?_)
    refine Zi rfl rfl <| Zn rfl (Zd rfl (Zbi _)) <| Zi rfl rfl (Zn rfl (Zh Tryz.underlying3 rfl rfl (by exact Zo 2 rfl rfl)) ?_)
    refine Zi rfl rfl (Zn rfl (by exact WJ rfl rfl (by simp only [Z9, Bool.and_eq_true, decide_eq_true_eq] at hw15; omega) (by simp only [Z9, Bool.and_eq_true, decide_eq_true_eq] at hw15; omega)) ?_)
    refine Zi rfl rfl (Zn rfl (by exact W2 rfl rfl (by simp only [Z9, Bool.and_eq_true, decide_eq_true_eq] at hw15; omega) (by simp only [Z9, Bool.and_eq_true, decide_eq_true_eq] at hw15; omega)) ?_)
    refine Zi rfl rfl <| Zn rfl (rd_min2I rfl rfl) <| Zi rfl rfl (ZD rfl (vf := []) (vc := []) rfl rfl Tryz.call113 (fun w1 ho => YP _ _ _ w1) ?_)
    rintro _ _ ⟨rfl, rfl⟩
    refine Z3 (fun hw27 => ?_) (fun hw27 => ?_)
    · refine Zi rfl rfl <| Zn rfl (rd_not rfl) <| gr rfl (Zq rfl rfl) <| gA <| Zk rfl <| Zu <| Ze <| Zb <| Za <| gas rfl rfl <| gA <| Zp <| Zz (.inl rfl) Tryz.results78 rfl [0, 1] (by decide) ?_
      refine ⟨congrArg (Value.int .i64) (Eq.symm ?_), rfl⟩
      unfold dvE
      rw [if_neg (by omega)]
      rw [if_neg]
      unfold Zbd
      rw [Bool.not_eq_true]
      try simp only [Z9] at *
      simp only [Bool.not_eq_true', Bool.not_eq_false', Bool.and_eq_false_iff, Bool.and_eq_true, decide_eq_true_eq, decide_eq_false_iff_not] at *
      omega
    refine Zi rfl rfl <| Zn rfl (rd_not rfl) <| gr rfl (Zq rfl rfl) <| gA <| Zj rfl <| Zb <| Za <| gas rfl rfl <| gA <| Zp <| Zg <| Zz (.inl rfl) Tryz.results78 rfl [0, 1] (by decide) ?_
    refine ⟨congrArg (Value.int .i64) (Eq.symm ?_), rfl⟩
    unfold dvE
    rw [if_neg (by omega)]
    rw [if_pos]
    unfold Zbd
    try simp only [Z9] at *
    simp only [Bool.not_eq_true', Bool.not_eq_false', Bool.and_eq_false_iff, Bool.and_eq_true, decide_eq_true_eq, decide_eq_false_iff_not] at *
    omega
  refine gr rfl (rd_not rfl) <| gm rfl rfl <| Zs rfl rfl rfl <| Zs rfl rfl rfl <| Zs rfl rfl rfl <| Zs rfl rfl rfl <| Zs rfl rfl rfl <| Zs rfl rfl rfl <| Zs rfl rfl rfl <| Zs rfl rfl rfl <| Zs rfl rfl rfl <| Zs rfl rfl rfl <| Zs rfl rfl rfl <| gr rfl (ZB rfl rfl) <| gA <| Zj rfl <| Zb <| Za <| gas rfl rfl <| gA <| Zp <| Zg <| Zz (.inl rfl) Tryz.results78 rfl [0, 1] (by decide) ?_
  refine ⟨congrArg (Value.int .i64) (Eq.symm ?_), rfl⟩
  unfold dvE
  rw [if_neg (by omega)]
  rw [if_pos]
  unfold Zbd
  try simp only [Z9] at *
  simp only [Bool.not_eq_true', Bool.not_eq_false', Bool.and_eq_false_iff, Bool.and_eq_true, decide_eq_true_eq, decide_eq_false_iff_not] at *
  omega
namespace Sx
theorem Zbr (x : UInt8) : (⟨#[x]⟩ : ByteArray).size = 1 := rfl
theorem feet_ok {num den : Int} (h : feetB num den = true) : ∃ a b : Nat, num = (a : Int) ∧ den = (b : Int) ∧ 1 ≤ b ∧ b ≤ 15 ∧ 1 ≤ a ∧ a ≤ 64 * b := by
  unfold feetB at h
  simp only [Bool.and_eq_true, decide_eq_true_eq] at h
  exact ⟨num.toNat, den.toNat, by omega, by omega, by omega, by omega, by omega, by omega⟩
theorem Zlc (z : Int) (h0 : 0 ≤ z) (h1 : z < 100) (w0 : World) : Sp Tryz.prog 116 [.int .i64 z] w0 [] (RV (.string (X0 z.toNat))) := by
  obtain ⟨i, rfl⟩ : ∃ i : Nat, z = i := ⟨z.toNat, by omega⟩
  exact Znp i (by omega) w0
theorem Znq (i : Nat) (hi : i < 100) : (kStop ++ X0 i).size ≤ 1000 := by
  rw [Va]
  have := Zbp i hi
  have h5 : kStop.size = 5 := rfl
  omega
end Sx
open Sx
theorem Feet_ok (num den : Int) (w0 : World) : Sp Tryz.prog 127 [.agg #[.int .i64 num, .int .i64 den]] w0 [] (fun v L => L = [] ∧ ∃ t, v = .tuple #[.string t, .int .i64 (if feetB num den = true then 0 else 2)]) := by
  refine ZA Tryz.func127 rfl Tryz.ntmps127 rfl (Own.refl _) ?_
  simp only [ZT]
  refine Zb <| Za <| Zl (Yc rfl rfl rfl (fun b1 => ?_))
  refine gas rfl rfl <| gas rfl rfl <| gA <| Zb <| Zb <| Za <| gr rfl (Zt Tryz.underlying94 rfl VN rfl (by exact ZH 0 (off := 0) (k := 2) rfl rfl) rfl) ?_
  refine Zl (ZD rfl (vf := []) (vc := []) rfl rfl Tryz.call143 (fun w1 ho => valid_ok num den w1) ?_)
  rintro _ _ ⟨rfl, rfl⟩
  refine Z3 (fun hv => ?_) (fun hv => ?_)
  · obtain ⟨a, b, rfl, rfl, hb1, hb2, hb3, hb4⟩ := feet_ok hv
    have hq : a / b ≤ 64 := Nat.div_le_of_le_mul (by rw [Nat.mul_comm]; exact hb4)
    have hr : a % b < b := Nat.mod_lt a (by omega)
    have hs1 := Zbp (a % b) (by omega)
    have hs2 := Zbp b (by omega)
    have hs3 := Zbp (a / b) (by omega)
    refine gr rfl (rd_not rfl) <| gA <| Zk rfl <| Zu <| Ze <| Zb <| ZP [0] true 11 rfl <| Zc 0 rfl rfl ⟨[0], by decide, rfl⟩ (Zf (Zd rfl (Zbh _))) ?_
    refine Zc 1 rfl rfl ⟨[0], by decide, rfl⟩ (Zf (Zh Tryz.underlying3 rfl rfl (by exact Zo 0 rfl rfl))) ?_
    refine Zc 2 rfl rfl ⟨[0], by decide, rfl⟩ (Zf (Zd rfl (Vo _))) ?_
    refine Zc 3 rfl rfl ⟨[0], by decide, rfl⟩ (Zf (Zh Tryz.underlying3 rfl rfl (by exact Zo 0 rfl rfl))) ?_
    refine Zc 4 rfl rfl ⟨[0], by decide, rfl⟩ (Zf (by exact Vi rfl rfl (by omega) (by omega))) ?_
    refine Zc 5 rfl rfl ⟨[0], by decide, rfl⟩ (Zf (Zd rfl (Zbh _))) ?_
    refine Zc 6 rfl rfl ⟨[0], by decide, rfl⟩ (Zf (Zh Tryz.underlying3 rfl rfl (by exact Zo 0 rfl rfl))) ?_
    refine Zc 7 rfl rfl ⟨[0], by decide, rfl⟩ (Zf (Zd rfl (Vo _))) ?_
    refine Zc 8 rfl rfl ⟨[0], by decide, rfl⟩ (Zf (Zh Tryz.underlying3 rfl rfl (by exact Zo 0 rfl rfl))) ?_
    refine Zc 9 rfl rfl ⟨[0], by decide, rfl⟩ (Zf (by exact Vh rfl rfl (by omega))) ?_
    refine Zc 10 rfl rfl ⟨[0], by decide, rfl⟩ (Zf (ZV rfl)) ?_
    refine Zc 11 rfl rfl ⟨[0], by decide, rfl⟩ (Zf (ZV rfl)) ?_
    refine ZS (.inr ⟨[0], by decide, rfl⟩) ?_
    refine Ze <| Zb <| ZP [0] true 7 rfl <| Zc 0 rfl rfl ⟨[0], by decide, rfl⟩ (Zf (Zm rfl)) ?_
    refine Zc 1 rfl rfl ⟨[0], by decide, rfl⟩ (YC (vf := []) (vc := []) rfl rfl Tryz.call144 (fun w1 ho => Zdh (a % b) (by omega) w1) (by rintro _ _ ⟨h, _⟩; exact h)) ?_
    refine Zc 2 rfl rfl ⟨[0], by decide, rfl⟩ (Zf (XM Tryz.underlying9 rfl rfl (by simp only [Va, Zbr]; omega))) ?_
    refine Zc 3 rfl rfl ⟨[0], by decide, rfl⟩ (Zf (Zd rfl (Vo _))) ?_
    refine Zc 4 rfl rfl ⟨[0], by decide, rfl⟩ (Zf (Zh Tryz.underlying3 rfl rfl (by exact Zo 0 rfl rfl))) ?_
    refine Zc 5 rfl rfl ⟨[0], by decide, rfl⟩ (YC (vf := []) (vc := []) rfl rfl Tryz.call144 (fun w1 ho => Zdh (b) (by omega) w1) (by rintro _ _ ⟨h, _⟩; exact h)) ?_
    refine Zc 6 rfl rfl ⟨[0], by decide, rfl⟩ (Zf (XM Tryz.underlying9 rfl rfl (by simp only [Va, Zbr]; omega))) ?_
    refine Zc 7 rfl rfl ⟨[0], by decide, rfl⟩ (Zf (ZV rfl)) ?_
    refine ZS (.inr ⟨[0], by decide, rfl⟩) ?_
    refine Ze <| Zb <| ZC <| Zb <| Za <| gr rfl (Zd rfl (Vo _)) <| gr rfl (Zh Tryz.underlying3 rfl rfl (by exact Zo 0 rfl rfl)) ?_
    refine gr rfl (Yt rfl rfl) (Zx (fun h30 => ?_) (fun h30 => ?_))
    · refine gas rfl rfl <| gA <| Zj rfl <| Zb <| Za <| gm rfl rfl <| Zl (ZD rfl (vf := []) (vc := []) rfl rfl Tryz.call144 (fun w1 ho => Zdh (a / b) (by omega) w1) ?_)
      rintro _ _ ⟨rfl, rfl⟩
      refine gas rfl rfl <| gas rfl rfl <| gA <| Zp <| Zw <| Zg <| YI (.inl rfl) Tryz.results127 rfl rfl [] (by decide) ?_
      exact ⟨rfl, _, by rw [hv]; rfl⟩
    refine gas rfl rfl <| gA <| Zk rfl <| Zb <| Za <| gm rfl rfl <| gr rfl (Yt rfl rfl) (Zx (fun h35 => ?_) (fun h35 => ?_))
    · refine gas rfl rfl <| gA <| Zj rfl <| Zb <| Za <| gm rfl rfl <| gas rfl rfl <| gas rfl rfl <| gA <| Zp <| Zw <| Zg <| YI (.inl rfl) Tryz.results127 rfl rfl [] (by decide) ?_
      exact ⟨rfl, _, by rw [hv]; rfl⟩
    refine gas rfl rfl <| gA <| Zk rfl <| Zu <| ZM <| Ze <| Zb <| Za <| gm rfl rfl <| Zl (ZD rfl (vf := []) (vc := []) rfl rfl Tryz.call144 (fun w1 ho => Zdh (a / b) (by omega) w1) ?_)
    rintro _ _ ⟨rfl, rfl⟩
    refine gr rfl (XM Tryz.underlying9 rfl rfl (by simp only [Va, Zbr]; omega)) ?_
    refine gm rfl rfl <| gr rfl (XM Tryz.underlying9 rfl rfl (by simp only [Va, Zbr]; omega)) ?_
    refine gas rfl rfl <| gas rfl rfl <| gA <| Zp <| YI (.inl rfl) Tryz.results127 rfl rfl [] (by decide) ?_
    exact ⟨rfl, _, by rw [hv]; rfl⟩
  refine gr rfl (rd_not rfl) <| gA <| Zj rfl <| Zb <| Za <| gas rfl rfl <| gas rfl rfl <| gA <| Zp <| Zg <| YI (.inl rfl) Tryz.results127 rfl rfl [] (by decide) ?_
  exact ⟨rfl, _, by rw [hv]; rfl⟩
theorem Zel (num den : Int) (w0 : World) : Sp Tryz.prog 114 [.agg #[.int .i64 num, .int .i64 den]] w0 [] (RV (.bool (feetB num den))) := by
  refine ZA Tryz.func114 rfl Tryz.ntmps114 rfl (Own.refl _) ?_
  simp only [ZT]
  refine Zb <| Za <| Zl (Yc rfl rfl rfl (fun b1 => ?_))
  refine gas rfl rfl <| gA <| Zb <| Za <| gr rfl (Zt Tryz.underlying94 rfl VN rfl (by exact ZH 0 (off := 0) (k := 2) rfl rfl) rfl) ?_
  refine Zl (ZD rfl (vf := []) (vc := []) rfl rfl Tryz.call127 (fun w1 ho => Feet_ok num den w1) ?_)
  rintro _ _ ⟨rfl, t, rfl⟩
  refine gm rfl rfl <| gr rfl (Zv rfl rfl) <| gr rfl (Zv rfl rfl) <| gas rfl rfl <| gas rfl rfl <| gA <| Zb <| Za <| gm rfl rfl <| gr rfl (Yt rfl rfl) <| gas rfl rfl <| gA <| Zp <| Zz (.inl rfl) Tryz.results114 rfl [] (by decide) ?_
  refine ⟨congrArg Value.bool ?_, rfl⟩
  cases feetB num den <;> rfl
theorem rank_ok (s : Org) (cb mb : Nat) (K : List ByteArray) (r : Rk) (hz : r.name.size ≤ 140737488355328) (w0 : World) (hown : Own w0 [cb, mb] w0 [CB s cb mb, OB mb K]) : Sp Tryz.prog 80 [.pointer (some ⟨cb, 0, none⟩), r.val] w0 [cb, mb] (RC s cb mb (rkE K r) (rkK K r)) := by
  unfold CB OB at hown
  refine ZA Tryz.func80 rfl Tryz.ntmps80 rfl hown ?_
  simp only [ZT]
  refine Zb <| Za <| Zl (Yc rfl rfl rfl (fun b3 => ?_))
  refine gas rfl rfl <| gA <| Zb <| Zb <| Za <| gm rfl rfl <| gr rfl (Zd rfl (fa_111_0 _)) <| gr rfl (Zh Tryz.underlying9 rfl rfl (by exact Zo 0 rfl rfl)) ?_
  refine Zl (Yf [1, 2] [0] rfl (vf := []) (vc := []) rfl rfl Tryz.call112 (by decide) rfl (fun w how hc => Zbq s cb mb K Vr r.name (by decide) hz w hc) ?_)
  rintro _ _ ⟨rfl, rfl⟩
  refine gas rfl rfl <| gA <| Zb <| Za <| gm rfl rfl <| gr rfl (ZX rfl rfl) (Zx (fun hnm => ?_) (fun hnm => ?_))
  · refine gA <| Zj rfl <| Zb <| Za <| gm rfl rfl <| gas rfl rfl <| gA <| Zp <| Zg <| Zz (.inl rfl) Tryz.results80 rfl [0, 1] (by decide) ?_
    refine ⟨congrArg (Value.int .i64) (Eq.symm ?_), rfl⟩
    unfold rkE
    rw [if_pos hnm]
  refine gA <| Zk rfl <| Zu <| Ze <| Zb <| Zb <| Za <| gr rfl (Zd rfl (fa_111_1 _)) <| gr rfl (Zh Tryz.underlying3 rfl rfl (by exact Zo 2 rfl rfl)) ?_
  refine Zl (ZD rfl (vf := []) (vc := []) rfl rfl Tryz.call113 (fun w1 ho => YP _ _ _ w1) ?_)
  rintro _ _ ⟨rfl, rfl⟩
  refine Z3 (fun hw15 => ?_) (fun hw15 => ?_)
  · refine gr rfl (rd_not rfl) <| gm rfl rfl <| Zi rfl rfl <| Zn rfl (Zd rfl (fa_111_2 _)) <| Zi rfl rfl (Zn rfl (Zt Tryz.underlying94 rfl VN rfl (by exact ZH 2 (off := 2) (k := 2) rfl rfl) rfl) ?_)
    refine Zi rfl rfl (ZD rfl (vf := []) (vc := []) rfl rfl Tryz.call114 (fun w1 ho => Zel r.num r.den w1) ?_)
    rintro _ _ ⟨rfl, rfl⟩
    refine Z3 (fun hft => ?_) (fun hft => ?_)
    · refine Zi rfl rfl <| Zn rfl (rd_not rfl) <| gr rfl (Zq rfl rfl) <| gA <| Zk rfl <| Zu <| Ze <| Zb <| Zb <| Za <| gr rfl (Zd rfl (Zed _)) <| gr rfl (Zh Tryz.underlying3 rfl rfl (by exact Zo 2 rfl rfl)) ?_
      refine Zl (ZD rfl (vf := []) (vc := []) rfl rfl Tryz.call113 (fun w1 ho => YP _ _ _ w1) ?_)
      rintro _ _ ⟨rfl, rfl⟩
      refine Z3 (fun hw25 => ?_) (fun hw25 => ?_)
      · refine gr rfl (rd_not rfl) <| gm rfl rfl <| Zi rfl rfl <| Zn rfl (Zd rfl (Zec _)) <| Zi rfl rfl (Zn rfl (Zh Tryz.underlying3 rfl rfl (by exact Zo 2 rfl rfl)) ?_)
        refine Zi rfl rfl <| Zn rfl (Zd rfl (Zed _)) <| Zi rfl rfl (Zn rfl (Zh Tryz.underlying3 rfl rfl (by exact Zo 2 rfl rfl)) ?_)
        refine Zi rfl rfl (Zn rfl (by exact W2 rfl rfl (by simp only [Z9, Bool.and_eq_true, decide_eq_true_eq] at hw25; omega) (by simp only [Z9, Bool.and_eq_true, decide_eq_true_eq] at hw25; omega)) ?_)
        refine Zi rfl rfl (ZD rfl (vf := []) (vc := []) rfl rfl Tryz.call113 (fun w1 ho => YP _ _ _ w1) ?_)
        rintro _ _ ⟨rfl, rfl⟩
        refine Z3 (fun hw33 => ?_) (fun hw33 => ?_)
        · refine Zi rfl rfl <| Zn rfl (rd_not rfl) <| gr rfl (Zq rfl rfl) <| gA <| Zk rfl <| Zu <| Ze <| Zb <| Za <| gas rfl rfl <| gA <| Zp <| Zz (.inl rfl) Tryz.results80 rfl [0, 1] (by decide) ?_
          refine ⟨congrArg (Value.int .i64) (Eq.symm ?_), rfl⟩
          unfold rkE
          rw [if_neg (by omega)]
          rw [if_neg (by unfold Zd6; rw [hft]; simp only [Z9] at hw15; simp at hw15 ⊢; omega)]
          rw [if_neg]
          unfold Zaa
          rw [Bool.not_eq_true]
          try simp only [Z9] at *
          simp only [Bool.not_eq_true', Bool.not_eq_false', Bool.and_eq_false_iff, Bool.and_eq_true, decide_eq_true_eq, decide_eq_false_iff_not] at *
          omega
        refine Zi rfl rfl <| Zn rfl (rd_not rfl) <| gr rfl (Zq rfl rfl) <| gA <| Zj rfl <| Zb <| Za <| gas rfl rfl <| gA <| Zp <| Zg <| Zz (.inl rfl) Tryz.results80 rfl [0, 1] (by decide) ?_
        refine ⟨congrArg (Value.int .i64) (Eq.symm ?_), rfl⟩
        unfold rkE
        rw [if_neg (by omega)]
        rw [if_neg (by unfold Zd6; rw [hft]; simp only [Z9] at hw15; simp at hw15 ⊢; omega)]
        rw [if_pos]
        unfold Zaa
        try simp only [Z9] at *
        simp only [Bool.not_eq_true', Bool.not_eq_false', Bool.and_eq_false_iff, Bool.and_eq_true, decide_eq_true_eq, decide_eq_false_iff_not] at *
        omega
      refine gr rfl (rd_not rfl) <| gm rfl rfl <| Zs rfl rfl rfl <| Zs rfl rfl rfl <| Zs rfl rfl rfl <| Zs rfl rfl rfl <| Zs rfl rfl rfl <| Zs rfl rfl rfl <| Zs rfl rfl rfl <| gr rfl (ZB rfl rfl) <| gA <| Zj rfl <| Zb <| Za <| gas rfl rfl <| gA <| Zp <| Zg <| Zz (.inl rfl) Tryz.results80 rfl [0, 1] (by decide) ?_
      refine ⟨congrArg (Value.int .i64) (Eq.symm ?_), rfl⟩
      unfold rkE
      rw [if_neg (by omega)]
      rw [if_neg (by unfold Zd6; rw [hft]; simp only [Z9] at hw15; simp at hw15 ⊢; omega)]
      rw [if_pos]
      unfold Zaa
      try simp only [Z9] at *
      simp only [Bool.not_eq_true', Bool.not_eq_false', Bool.and_eq_false_iff, Bool.and_eq_true, decide_eq_true_eq, decide_eq_false_iff_not] at *
      omega
    refine Zi rfl rfl <| Zn rfl (rd_not rfl) <| gr rfl (Zq rfl rfl) <| gA <| Zj rfl <| Zb <| Za <| gas rfl rfl <| gA <| Zp <| Zg <| Zz (.inl rfl) Tryz.results80 rfl [0, 1] (by decide) ?_
    refine ⟨congrArg (Value.int .i64) (Eq.symm ?_), rfl⟩
    unfold rkE
    rw [if_neg (by omega)]
    rw [if_pos]
    unfold Zd6
    try simp only [Z9] at *
    cases hfb : feetB r.num r.den <;> simp_all <;> omega
  refine gr rfl (rd_not rfl) <| gm rfl rfl <| Zs rfl rfl rfl <| Zs rfl rfl rfl <| Zs rfl rfl rfl <| Zs rfl rfl rfl <| gr rfl (ZB rfl rfl) <| gA <| Zj rfl <| Zb <| Za <| gas rfl rfl <| gA <| Zp <| Zg <| Zz (.inl rfl) Tryz.results80 rfl [0, 1] (by decide) ?_
  refine ⟨congrArg (Value.int .i64) (Eq.symm ?_), rfl⟩
  unfold rkE
  rw [if_neg (by omega)]
  rw [if_pos]
  unfold Zd6
  try simp only [Z9] at *
  cases hfb : feetB r.num r.den <;> simp_all <;> omega
theorem stop_ok (s : Org) (cb mb : Nat) (K : List ByteArray) (x : St) (hz : x.name.size ≤ 140737488355328) (hsd : s.ds.length ≤ 6) (w0 : World) (hown : Own w0 [cb, mb] w0 [CB s cb mb, OB mb K]) : Sp Tryz.prog 81 [.pointer (some ⟨cb, 0, none⟩), x.val] w0 [cb, mb] (RC s cb mb (stE s.ds.length K x) (stK s.ds.length K x)) := by
  unfold CB OB at hown
  refine ZA Tryz.func81 rfl Tryz.ntmps81 rfl hown ?_
  simp only [ZT]
  refine Zb <| Za <| Zl (Yc rfl rfl rfl (fun b3 => ?_))
  refine gas rfl rfl <| gA <| Zb <| ZC <| Zb <| Za <| gr rfl (Zd rfl (Zml _)) <| gr rfl (Zh Tryz.underlying9 rfl rfl (by exact Zo 0 rfl rfl)) ?_
  refine Zl (ZD rfl (vf := []) (vc := []) rfl rfl Tryz.call115 (fun w1 ho => Zmm x.name hz w1) ?_)
  rintro _ _ ⟨rfl, rfl⟩
  refine Z3 (fun hnm => ?_) (fun hnm => ?_)
  · refine gr rfl (rd_not rfl) <| gas rfl rfl <| gA <| Zk rfl <| Zb <| ZP [0, 1, 2] true 11 rfl <| Zc 0 rfl rfl ⟨[0, 1, 2], by decide, rfl⟩ (Zf (Zd rfl (Zde _))) ?_
    refine Zc 1 rfl rfl ⟨[0, 1, 2], by decide, rfl⟩ (Zf (Zh Tryz.underlying3 rfl rfl (by exact Zo 0 rfl rfl))) ?_
    refine Zc 2 rfl rfl ⟨[0, 1, 2], by decide, rfl⟩ (Zf (Zm rfl)) ?_
    refine Zc 3 rfl rfl ⟨[0, 1, 2], by decide, rfl⟩ (Zf (ZI rfl)) ?_
    refine Zc 4 rfl rfl ⟨[0, 1, 2], by decide, rfl⟩ (Zf (Zd rfl (Zbk _))) ?_
    refine Zc 5 rfl rfl ⟨[0, 1, 2], by decide, rfl⟩ (Zf (Zd rfl (Ww _))) ?_
    refine Zc 6 rfl rfl ⟨[0, 1, 2], by decide, rfl⟩ (Zf (Zh Tryz.underlying40 rfl rfl (by exact Zo 1 rfl rfl))) ?_
    refine Zc 7 rfl rfl ⟨[0, 1, 2], by decide, rfl⟩ (Zf (ZF Tryz.underlying40 rfl)) ?_
    refine Zc 8 rfl rfl ⟨[0, 1, 2], by decide, rfl⟩ (Zf (by exact W2 rfl rfl (by omega) (by omega))) ?_
    refine Zc 9 rfl rfl ⟨[0, 1, 2], by decide, rfl⟩ (YC (vf := []) (vc := []) rfl rfl Tryz.call113 (fun w1 ho => YP _ _ _ w1) (by rintro _ _ ⟨h, _⟩; exact h)) ?_
    refine Z3 (fun hw21 => ?_) (fun hw21 => ?_)
    · replace hw21 : XO x.div s.ds.length = true := by
        unfold XO; unfold Z9 at hw21; rw [Bool.eq_iff_iff] at hw21 ⊢; simp at hw21 ⊢; omega
      have hix := hw21
      have hdl : 0 ≤ x.div ∧ x.div < s.ds.length := by unfold XO at hix; simpa using hix
      refine Zc 10 rfl rfl ⟨[0, 1, 2], by decide, rfl⟩ (Zf (rd_not rfl)) ?_
      refine Zc 11 rfl rfl ⟨[0, 1, 2], by decide, rfl⟩ (Zf (ZV rfl)) ?_
      refine ZS (.inr ⟨[0, 1, 2], by decide, rfl⟩) ?_
      refine Ze <| Zk rfl <| Zu <| ZM <| Ze <| Zb <| Zb <| ZP [0] true 8 rfl <| Zc 0 rfl rfl ⟨[0], by decide, rfl⟩ (Zf (Zm rfl)) ?_
      refine Zc 1 rfl rfl ⟨[0], by decide, rfl⟩ (Zf (Zd rfl (Zde _))) ?_
      refine Zc 2 rfl rfl ⟨[0], by decide, rfl⟩ (Zf (Zh Tryz.underlying3 rfl rfl (by exact Zo 0 rfl rfl))) ?_
      refine Zc 3 rfl rfl ⟨[0], by decide, rfl⟩ (YC (vf := []) (vc := []) rfl rfl Tryz.call116 (fun w1 ho => Zlc x.div (by omega) (by omega) w1) (by rintro _ _ ⟨h, _⟩; exact h)) ?_
      refine Zc 4 rfl rfl ⟨[0], by decide, rfl⟩ (Zf (XM Tryz.underlying9 rfl rfl (by have := Zbp x.div.toNat (by omega); show 5 + (X0 x.div.toNat).size ≤ _; omega))) ?_
      refine Zc 5 rfl rfl ⟨[0], by decide, rfl⟩ (Zf (Zd rfl (Zml _))) ?_
      refine Zc 6 rfl rfl ⟨[0], by decide, rfl⟩ (Zf (Zh Tryz.underlying9 rfl rfl (by exact Zo 0 rfl rfl))) ?_
      refine ZG 7 rfl (.inr ⟨[0], by decide, rfl⟩) (Yf [1, 2] [0] rfl (vf := []) (vc := []) rfl rfl Tryz.call112 (by decide) rfl (fun w how hc => Zbq s cb mb K (kStop ++ X0 x.div.toNat) x.name (Znq x.div.toNat (by omega)) hz w hc) ?_)
      rintro _ _ ⟨rfl, rfl⟩
      refine Zc 8 rfl rfl ⟨[2], by decide, rfl⟩ (Zf (ZV rfl)) ?_
      refine ZS (.inr ⟨[2], by decide, rfl⟩) ?_
      refine Ze <| Zb <| Za <| gm rfl rfl <| gr rfl (ZX rfl rfl) (Zx (fun hn2 => ?_) (fun hn2 => ?_))
      · refine gA <| Zj rfl <| Zb <| Za <| gm rfl rfl <| gas rfl rfl <| gA <| Zp <| Zg <| Zz (.inl rfl) Tryz.results81 rfl [0, 1] (by decide) ?_
        have he : stE s.ds.length K x = YQ K (kStop ++ X0 x.div.toNat) x.name := by unfold stE; rw [if_neg (by rw [hnm]; decide), if_neg (by rw [hix]; decide), if_pos hn2]
        have hk : stK s.ds.length K x = Xv K (kStop ++ X0 x.div.toNat) x.name := by unfold stK; rw [if_neg (by rw [hnm, hix]; decide)]
        rw [he, hk]
        exact ⟨rfl, rfl⟩
      refine gA <| Zk rfl <| Zu <| Ze <| Zb <| ZC <| Zb <| Za <| gr rfl (Zd rfl (fa_99_2 _)) <| gr rfl (Zt Tryz.underlying94 rfl VN rfl (by exact ZH 2 (off := 2) (k := 2) rfl rfl) rfl) ?_
      refine Zl (ZD rfl (vf := []) (vc := []) rfl rfl Tryz.call114 (fun w1 ho => Zel x.num x.den w1) ?_)
      rintro _ _ ⟨rfl, rfl⟩
      refine Z3 (fun hft => ?_) (fun hft => ?_)
      · refine gr rfl (rd_not rfl) <| gm rfl rfl <| Zi rfl rfl <| Zn rfl (Zd rfl (Zhl _)) <| Zi rfl rfl (Zn rfl (Zh Tryz.underlying97 rfl rfl (by exact Zo 2 rfl rfl)) ?_)
        refine Zi rfl rfl <| Zn rfl (ZF Tryz.underlying97 rfl) <| Zi rfl rfl (Zn rfl (Yt rfl rfl) (Zx (fun h43 => ?_) (fun h43 => ?_)))
        · refine gr rfl (Zq rfl rfl) <| gas rfl rfl <| gA <| Zj rfl <| Zb <| Za <| gas rfl rfl <| gA <| Zp <| Zw <| Zg <| Zz (.inl rfl) Tryz.results81 rfl [0, 1] (by decide) ?_
          have he : stE s.ds.length K x = 2 := by unfold stE; rw [if_neg (by rw [hnm]; decide), if_neg (by rw [hix]; decide), if_neg hn2, if_pos]; rw [hft, decide_eq_true (show x.ps.length = 0 by omega)]; rfl
          have hk : stK s.ds.length K x = Xv K (kStop ++ X0 x.div.toNat) x.name := by unfold stK; rw [if_neg (by rw [hnm, hix]; decide)]
          rw [he, hk]
          exact ⟨rfl, rfl⟩
        refine gr rfl (Zq rfl rfl) <| gas rfl rfl <| gA <| Zk rfl <| Zb <| Za <| gr rfl (Zd rfl (Zhl _)) <| gr rfl (Zh Tryz.underlying97 rfl rfl (by exact Zo 2 rfl rfl)) ?_
        refine gr rfl (ZF Tryz.underlying97 rfl) <| gr rfl (YW rfl rfl) (Zx (fun h49 => ?_) (fun h49 => ?_))
        · refine gas rfl rfl <| gA <| Zj rfl <| Zb <| Za <| gas rfl rfl <| gA <| Zp <| Zw <| Zg <| Zz (.inl rfl) Tryz.results81 rfl [0, 1] (by decide) ?_
          have he : stE s.ds.length K x = 3 := by unfold stE; rw [if_neg (by rw [hnm]; decide), if_neg (by rw [hix]; decide), if_neg hn2, if_neg (by rw [hft, decide_eq_false (show ¬ x.ps.length = 0 by omega)]; decide), if_pos (decide_eq_true (by omega))]
          have hk : stK s.ds.length K x = Xv K (kStop ++ X0 x.div.toNat) x.name := by unfold stK; rw [if_neg (by rw [hnm, hix]; decide)]
          rw [he, hk]
          exact ⟨rfl, rfl⟩
        refine gas rfl rfl <| gA <| Zk rfl <| Zu <| ZM <| Ze <| Zb <| Za <| gas rfl rfl <| gA <| Zp <| Zz (.inl rfl) Tryz.results81 rfl [0, 1] (by decide) ?_
        have he : stE s.ds.length K x = 0 := by unfold stE; rw [if_neg (by rw [hnm]; decide), if_neg (by rw [hix]; decide), if_neg hn2, if_neg (by rw [hft, decide_eq_false (show ¬ x.ps.length = 0 by omega)]; decide), if_neg (by rw [decide_eq_false (show ¬ 12 < x.ps.length by omega)]; decide)]
        have hk : stK s.ds.length K x = Xv K (kStop ++ X0 x.div.toNat) x.name := by unfold stK; rw [if_neg (by rw [hnm, hix]; decide)]
        rw [he, hk]
        exact ⟨rfl, rfl⟩
      refine gr rfl (rd_not rfl) <| gm rfl rfl <| Zs rfl rfl rfl <| Zs rfl rfl rfl <| Zs rfl rfl rfl <| Zs rfl rfl rfl <| gr rfl (ZB rfl rfl) <| gas rfl rfl <| gA <| Zj rfl <| Zb <| Za <| gas rfl rfl <| gA <| Zp <| Zw <| Zg <| Zz (.inl rfl) Tryz.results81 rfl [0, 1] (by decide) ?_
      have he : stE s.ds.length K x = 2 := by unfold stE; rw [if_neg (by rw [hnm]; decide), if_neg (by rw [hix]; decide), if_neg hn2, if_pos]; rw [hft]; rfl
      have hk : stK s.ds.length K x = Xv K (kStop ++ X0 x.div.toNat) x.name := by unfold stK; rw [if_neg (by rw [hnm, hix]; decide)]
      rw [he, hk]
      exact ⟨rfl, rfl⟩
    replace hw21 : XO x.div s.ds.length = false := by
      unfold XO; unfold Z9 at hw21; rw [Bool.eq_iff_iff] at hw21 ⊢; simp at hw21 ⊢; omega
    have hix := hw21
    refine Zc 10 rfl rfl ⟨[0, 1, 2], by decide, rfl⟩ (Zf (rd_not rfl)) ?_
    refine Zc 11 rfl rfl ⟨[0, 1, 2], by decide, rfl⟩ (Zf (ZV rfl)) ?_
    refine ZS (.inr ⟨[0, 1, 2], by decide, rfl⟩) ?_
    refine Ze <| Zj rfl <| Zb <| Za <| gas rfl rfl <| gA <| Zp <| Zw <| Zg <| Zz (.inl rfl) Tryz.results81 rfl [1, 2] (by decide) ?_
    have he : stE s.ds.length K x = 4 := by unfold stE; rw [if_neg (by rw [hnm]; decide), if_pos hix]
    have hk : stK s.ds.length K x = K := by unfold stK; rw [if_pos (.inr hix)]
    rw [he, hk]
    exact ⟨rfl, rfl⟩
  refine gr rfl (rd_not rfl) <| gas rfl rfl <| gA <| Zj rfl <| Zb <| Za <| gas rfl rfl <| gA <| Zp <| Zw <| Zg <| Zz (.inl rfl) Tryz.results81 rfl [1, 2] (by decide) ?_
  have he : stE s.ds.length K x = 6 := by unfold stE; rw [if_pos hnm]
  have hk : stK s.ds.length K x = K := by unfold stK; rw [if_pos (.inl hnm)]
  rw [he, hk]
  exact ⟨rfl, rfl⟩
theorem Zld (s : Org) (cb mb : Nat) (K : List ByteArray) (x : Cp) (hz : x.name.size ≤ 140737488355328) (hsd : s.ds.length ≤ 6) (w0 : World) (hown : Own w0 [cb, mb] w0 [CB s cb mb, OB mb K]) : Sp Tryz.prog 86 [.pointer (some ⟨cb, 0, none⟩), x.val] w0 [cb, mb] (RC s cb mb (cpE s.ds.length K x) (cpK K x)) := by
  unfold CB OB at hown
  refine ZA Tryz.func86 rfl Tryz.ntmps86 rfl hown ?_
  simp only [ZT]
  refine Zb <| Za <| Zl (Yc rfl rfl rfl (fun b3 => ?_))
  refine gas rfl rfl <| gA <| Zb <| Zb <| Za <| gm rfl rfl <| gr rfl (Zd rfl (fa_113_0 _)) <| gr rfl (Zh Tryz.underlying9 rfl rfl (by exact Zo 0 rfl rfl)) ?_
  refine Zl (Yf [1, 2] [0] rfl (vf := []) (vc := []) rfl rfl Tryz.call112 (by decide) rfl (fun w how hc => Zbq s cb mb K Jv x.name (by decide) hz w hc) ?_)
  rintro _ _ ⟨rfl, rfl⟩
  refine gas rfl rfl <| gA <| Zb <| Za <| gm rfl rfl <| gr rfl (ZX rfl rfl) (Zx (fun hnm => ?_) (fun hnm => ?_))
  · refine gA <| Zj rfl <| Zb <| Za <| gm rfl rfl <| gas rfl rfl <| gA <| Zp <| Zg <| Zz (.inl rfl) Tryz.results86 rfl [0, 1] (by decide) ?_
    refine ⟨congrArg (Value.int .i64) (Eq.symm ?_), rfl⟩
    unfold cpE
    rw [if_pos hnm]
  refine gA <| Zk rfl <| Zu <| Ze <| Zb <| Za <| gm rfl rfl <| gnc rfl rfl <| gr rfl (Zd rfl (Zbk _)) <| gr rfl (Zd rfl (Ww _)) <| gr rfl (Zh Tryz.underlying40 rfl rfl (by exact Zo 0 rfl rfl)) ?_
  refine gr rfl (ZF Tryz.underlying40 rfl) <| gr rfl (by exact W2 rfl rfl (by omega) (by omega)) ?_
  refine gas rfl rfl <| gA <| Zb <| Zb <| Za <| gr rfl (Zd rfl (Zee _)) <| gr rfl (Zh Tryz.underlying3 rfl rfl (by exact Zo 2 rfl rfl)) ?_
  refine gm rfl rfl <| Zl (ZD rfl (vf := []) (vc := []) rfl rfl Tryz.call113 (fun w1 ho => YP _ _ _ w1) ?_)
  rintro _ _ ⟨rfl, rfl⟩
  refine Z3 (fun hw25 => ?_) (fun hw25 => ?_)
  · replace hw25 : XO x.src s.ds.length = true := by
      unfold XO; unfold Z9 at hw25; rw [Bool.eq_iff_iff] at hw25 ⊢; simp at hw25 ⊢; omega
    refine gr rfl (rd_not rfl) <| gm rfl rfl <| Zi rfl rfl <| Zn rfl (Zd rfl (Zi7 _)) <| Zi rfl rfl (Zn rfl (Zh Tryz.underlying3 rfl rfl (by exact Zo 2 rfl rfl)) ?_)
    refine Zi rfl rfl <| Zn rfl (Zm rfl) <| Zi rfl rfl (ZD rfl (vf := []) (vc := []) rfl rfl Tryz.call113 (fun w1 ho => YP _ _ _ w1) ?_)
    rintro _ _ ⟨rfl, rfl⟩
    refine Z3 (fun hw31 => ?_) (fun hw31 => ?_)
    · replace hw31 : XO x.dst s.ds.length = true := by
        unfold XO; unfold Z9 at hw31; rw [Bool.eq_iff_iff] at hw31 ⊢; simp at hw31 ⊢; omega
      refine Zi rfl rfl <| Zn rfl (rd_not rfl) <| gr rfl (Zq rfl rfl) <| gA <| Zk rfl <| Zu <| Ze <| Zb <| Za <| gr rfl (Zd rfl (Zef _)) <| gr rfl (Zh Tryz.underlying3 rfl rfl (by exact Zo 2 rfl rfl)) ?_
      refine gr rfl (Yt rfl rfl) (Zx (fun h36 => ?_) (fun h36 => ?_))
      · refine gm rfl rfl <| Zs rfl rfl rfl <| Zs rfl rfl rfl <| Zs rfl rfl rfl <| gr rfl (ZB rfl rfl) <| gm rfl rfl <| Zs rfl rfl rfl <| Zs rfl rfl rfl <| Zs rfl rfl rfl <| Zs rfl rfl rfl <| Yk rfl rfl rfl <| Yk rfl rfl rfl <| Yk rfl rfl rfl <| Yk rfl rfl rfl <| Yk rfl rfl rfl <| Zs rfl rfl rfl <| gr rfl (ZB rfl rfl) <| gas rfl rfl <| gA <| Zb <| Zb <| Za <| gm rfl rfl <| gr rfl (rd_not rfl) ?_
        refine gm rfl rfl <| Zi rfl rfl <| Zn rfl (Zd rfl (VO _)) <| Zi rfl rfl (Zn rfl (Zh Tryz.underlying3 rfl rfl (by exact Zo 2 rfl rfl)) ?_)
        refine Zi rfl rfl (ZD rfl (vf := []) (vc := []) rfl rfl Tryz.call113 (fun w1 ho => YP _ _ _ w1) ?_)
        rintro _ _ ⟨rfl, rfl⟩
        refine Z3 (fun hw59 => ?_) (fun hw59 => ?_)
        · refine Zi rfl rfl <| Zn rfl (rd_not rfl) <| gr rfl (Zq rfl rfl) <| gm rfl rfl <| Zi rfl rfl <| Zn rfl (Zd rfl (Zeg _)) <| Zi rfl rfl (Zn rfl (Zh Tryz.underlying4 rfl rfl (by exact Zo 2 rfl rfl)) ?_)
          refine Z3 (fun h64 => ?_) (fun h64 => ?_)
          · refine Zi rfl rfl <| Zn rfl (Zm rfl) <| Zi rfl rfl <| Zn rfl (Zd rfl (VO _)) <| Zi rfl rfl (Zn rfl (Zh Tryz.underlying3 rfl rfl (by exact Zo 2 rfl rfl)) ?_)
            refine Zi rfl rfl (Zn rfl (ZX rfl rfl) (Zx (fun h68 => ?_) (fun h68 => ?_)))
            · refine Zi rfl rfl <| Zn rfl (ZB rfl rfl) <| gr rfl (Zq rfl rfl) <| gA <| Zj rfl <| Zb <| Za <| gas rfl rfl <| gA <| Zp <| Zg <| Zz (.inl rfl) Tryz.results86 rfl [0, 1] (by decide) ?_
              refine ⟨congrArg (Value.int .i64) (Eq.symm ?_), rfl⟩
              unfold cpE
              rw [if_neg (by omega)]
              rw [if_neg (by simp [*])]
              rw [if_pos]
              (simp [WQ, *]; done)
            refine Zi rfl rfl <| Zn rfl (ZB rfl rfl) <| gr rfl (Zq rfl rfl) <| gA <| Zk rfl <| Zu <| Ze <| Zb <| Za <| gas rfl rfl <| gA <| Zp <| Zz (.inl rfl) Tryz.results86 rfl [0, 1] (by decide) ?_
            refine ⟨congrArg (Value.int .i64) (Eq.symm ?_), rfl⟩
            unfold cpE
            rw [if_neg (by omega)]
            rw [if_neg (by simp [*])]
            rw [if_neg]
            rw [Bool.not_eq_true]
            (simp only [Z9] at *; unfold WQ; simp at *; omega)
          refine Zi rfl rfl <| Zn rfl (Zm rfl) <| Zs rfl rfl rfl <| Zs rfl rfl rfl <| Zs rfl rfl rfl <| Zi rfl rfl <| Zn rfl (Zq rfl rfl) <| gr rfl (Zq rfl rfl) <| gA <| Zk rfl <| Zu <| Ze <| Zb <| Za <| gas rfl rfl <| gA <| Zp <| Zz (.inl rfl) Tryz.results86 rfl [0, 1] (by decide) ?_
          refine ⟨congrArg (Value.int .i64) (Eq.symm ?_), rfl⟩
          unfold cpE
          rw [if_neg (by omega)]
          rw [if_neg (by simp [*])]
          rw [if_neg]
          rw [Bool.not_eq_true]
          (simp only [Z9] at *; unfold WQ; rw [h64]; clear h64; simp at *; omega)
        refine Zi rfl rfl <| Zn rfl (rd_not rfl) <| gr rfl (Zq rfl rfl) <| gm rfl rfl <| Zs rfl rfl rfl <| Zs rfl rfl rfl <| Zs rfl rfl rfl <| Yk rfl rfl rfl <| Yk rfl rfl rfl <| Yk rfl rfl rfl <| Zs rfl rfl rfl <| gr rfl (ZB rfl rfl) <| gA <| Zj rfl <| Zb <| Za <| gas rfl rfl <| gA <| Zp <| Zg <| Zz (.inl rfl) Tryz.results86 rfl [0, 1] (by decide) ?_
        refine ⟨congrArg (Value.int .i64) (Eq.symm ?_), rfl⟩
        unfold cpE
        rw [if_neg (by omega)]
        rw [if_neg (by simp [*])]
        rw [if_pos]
        (simp only [Z9] at *; unfold WQ; simp at *; omega)
      refine gm rfl rfl <| Zi rfl rfl <| Zn rfl (Zd rfl (Zef _)) <| Zi rfl rfl (Zn rfl (Zh Tryz.underlying3 rfl rfl (by exact Zo 2 rfl rfl)) ?_)
      refine Zi rfl rfl (Zn rfl (Yt rfl rfl) (Zx (fun h40 => ?_) (fun h40 => ?_)))
      · refine gr rfl (Zq rfl rfl) <| gm rfl rfl <| Zs rfl rfl rfl <| Zs rfl rfl rfl <| Zs rfl rfl rfl <| Zs rfl rfl rfl <| Yk rfl rfl rfl <| Yk rfl rfl rfl <| Yk rfl rfl rfl <| Yk rfl rfl rfl <| Yk rfl rfl rfl <| Zs rfl rfl rfl <| gr rfl (ZB rfl rfl) <| gas rfl rfl <| gA <| Zb <| Zb <| Za <| gm rfl rfl <| gr rfl (rd_not rfl) <| gm rfl rfl <| Zi rfl rfl <| Zn rfl (Zd rfl (VO _)) <| Zi rfl rfl (Zn rfl (Zh Tryz.underlying3 rfl rfl (by exact Zo 2 rfl rfl)) ?_)
        refine Zi rfl rfl (ZD rfl (vf := []) (vc := []) rfl rfl Tryz.call113 (fun w1 ho => YP _ _ _ w1) ?_)
        rintro _ _ ⟨rfl, rfl⟩
        refine Z3 (fun hw59 => ?_) (fun hw59 => ?_)
        · refine Zi rfl rfl <| Zn rfl (rd_not rfl) <| gr rfl (Zq rfl rfl) <| gm rfl rfl <| Zi rfl rfl <| Zn rfl (Zd rfl (Zeg _)) <| Zi rfl rfl (Zn rfl (Zh Tryz.underlying4 rfl rfl (by exact Zo 2 rfl rfl)) ?_)
          refine Z3 (fun h64 => ?_) (fun h64 => ?_)
          · refine Zi rfl rfl <| Zn rfl (Zm rfl) <| Zi rfl rfl <| Zn rfl (Zd rfl (VO _)) <| Zi rfl rfl (Zn rfl (Zh Tryz.underlying3 rfl rfl (by exact Zo 2 rfl rfl)) ?_)
            refine Zi rfl rfl (Zn rfl (ZX rfl rfl) (Zx (fun h68 => ?_) (fun h68 => ?_)))
            · refine Zi rfl rfl <| Zn rfl (ZB rfl rfl) <| gr rfl (Zq rfl rfl) <| gA <| Zj rfl <| Zb <| Za <| gas rfl rfl <| gA <| Zp <| Zg <| Zz (.inl rfl) Tryz.results86 rfl [0, 1] (by decide) ?_
              refine ⟨congrArg (Value.int .i64) (Eq.symm ?_), rfl⟩
              unfold cpE
              rw [if_neg (by omega)]
              rw [if_neg (by simp [*])]
              rw [if_pos]
              (simp [WQ, *]; done)
            refine Zi rfl rfl <| Zn rfl (ZB rfl rfl) <| gr rfl (Zq rfl rfl) <| gA <| Zk rfl <| Zu <| Ze <| Zb <| Za <| gas rfl rfl <| gA <| Zp <| Zz (.inl rfl) Tryz.results86 rfl [0, 1] (by decide) ?_
            refine ⟨congrArg (Value.int .i64) (Eq.symm ?_), rfl⟩
            unfold cpE
            rw [if_neg (by omega)]
            rw [if_neg (by simp [*])]
            rw [if_neg]
            rw [Bool.not_eq_true]
            (simp only [Z9] at *; unfold WQ; simp at *; omega)
          refine Zi rfl rfl <| Zn rfl (Zm rfl) <| Zs rfl rfl rfl <| Zs rfl rfl rfl <| Zs rfl rfl rfl <| Zi rfl rfl <| Zn rfl (Zq rfl rfl) <| gr rfl (Zq rfl rfl) <| gA <| Zk rfl <| Zu <| Ze <| Zb <| Za <| gas rfl rfl <| gA <| Zp <| Zz (.inl rfl) Tryz.results86 rfl [0, 1] (by decide) ?_
          refine ⟨congrArg (Value.int .i64) (Eq.symm ?_), rfl⟩
          unfold cpE
          rw [if_neg (by omega)]
          rw [if_neg (by simp [*])]
          rw [if_neg]
          rw [Bool.not_eq_true]
          (simp only [Z9] at *; unfold WQ; rw [h64]; clear h64; simp at *; omega)
        refine Zi rfl rfl <| Zn rfl (rd_not rfl) <| gr rfl (Zq rfl rfl) <| gm rfl rfl <| Zs rfl rfl rfl <| Zs rfl rfl rfl <| Zs rfl rfl rfl <| Yk rfl rfl rfl <| Yk rfl rfl rfl <| Yk rfl rfl rfl <| Zs rfl rfl rfl <| gr rfl (ZB rfl rfl) <| gA <| Zj rfl <| Zb <| Za <| gas rfl rfl <| gA <| Zp <| Zg <| Zz (.inl rfl) Tryz.results86 rfl [0, 1] (by decide) ?_
        refine ⟨congrArg (Value.int .i64) (Eq.symm ?_), rfl⟩
        unfold cpE
        rw [if_neg (by omega)]
        rw [if_neg (by simp [*])]
        rw [if_pos]
        (simp only [Z9] at *; unfold WQ; simp at *; omega)
      refine gr rfl (Zq rfl rfl) <| gm rfl rfl <| Zi rfl rfl <| Zn rfl (Zd rfl (Zef _)) <| Zi rfl rfl (Zn rfl (Zh Tryz.underlying3 rfl rfl (by exact Zo 2 rfl rfl)) ?_)
      refine Zi rfl rfl (Zn rfl (Yt rfl rfl) (Zx (fun h45 => ?_) (fun h45 => ?_)))
      · refine Zi rfl rfl <| Zn rfl (Zm rfl) <| Zi rfl rfl <| Zn rfl (Zd rfl (Zee _)) <| Zi rfl rfl (Zn rfl (Zh Tryz.underlying3 rfl rfl (by exact Zo 2 rfl rfl)) ?_)
        refine Zi rfl rfl <| Zn rfl (Zd rfl (Zi7 _)) <| Zi rfl rfl (Zn rfl (Zh Tryz.underlying3 rfl rfl (by exact Zo 2 rfl rfl)) ?_)
        refine Zi rfl rfl (Zn rfl (ZX rfl rfl) (Zx (fun h51 => ?_) (fun h51 => ?_)))
        · refine Zi rfl rfl <| Zn rfl (ZB rfl rfl) <| gr rfl (Zq rfl rfl) <| gas rfl rfl <| gA <| Zb <| Zb <| Za <| gm rfl rfl <| gr rfl (rd_not rfl) <| gm rfl rfl <| Zi rfl rfl <| Zn rfl (Zd rfl (VO _)) <| Zi rfl rfl (Zn rfl (Zh Tryz.underlying3 rfl rfl (by exact Zo 2 rfl rfl)) ?_)
          refine Zi rfl rfl (ZD rfl (vf := []) (vc := []) rfl rfl Tryz.call113 (fun w1 ho => YP _ _ _ w1) ?_)
          rintro _ _ ⟨rfl, rfl⟩
          refine Z3 (fun hw59 => ?_) (fun hw59 => ?_)
          · refine Zi rfl rfl <| Zn rfl (rd_not rfl) <| gr rfl (Zq rfl rfl) <| gm rfl rfl <| Zi rfl rfl <| Zn rfl (Zd rfl (Zeg _)) <| Zi rfl rfl (Zn rfl (Zh Tryz.underlying4 rfl rfl (by exact Zo 2 rfl rfl)) ?_)
            refine Z3 (fun h64 => ?_) (fun h64 => ?_)
            · refine Zi rfl rfl <| Zn rfl (Zm rfl) <| Zi rfl rfl <| Zn rfl (Zd rfl (VO _)) <| Zi rfl rfl (Zn rfl (Zh Tryz.underlying3 rfl rfl (by exact Zo 2 rfl rfl)) ?_)
              refine Zi rfl rfl (Zn rfl (ZX rfl rfl) (Zx (fun h68 => ?_) (fun h68 => ?_)))
              · refine Zi rfl rfl <| Zn rfl (ZB rfl rfl) <| gr rfl (Zq rfl rfl) <| gA <| Zj rfl <| Zb <| Za <| gas rfl rfl <| gA <| Zp <| Zg <| Zz (.inl rfl) Tryz.results86 rfl [0, 1] (by decide) ?_
                refine ⟨congrArg (Value.int .i64) (Eq.symm ?_), rfl⟩
                unfold cpE
                rw [if_neg (by omega)]
                rw [if_neg (by simp [*])]
                rw [if_pos]
                (simp [WQ, *]; done)
              refine Zi rfl rfl <| Zn rfl (ZB rfl rfl) <| gr rfl (Zq rfl rfl) <| gA <| Zk rfl <| Zu <| Ze <| Zb <| Za <| gas rfl rfl <| gA <| Zp <| Zz (.inl rfl) Tryz.results86 rfl [0, 1] (by decide) ?_
              refine ⟨congrArg (Value.int .i64) (Eq.symm ?_), rfl⟩
              unfold cpE
              rw [if_neg (by omega)]
              rw [if_neg (by simp [*])]
              rw [if_neg]
              rw [Bool.not_eq_true]
              (simp only [Z9] at *; unfold WQ; simp at *; omega)
            refine Zi rfl rfl <| Zn rfl (Zm rfl) <| Zs rfl rfl rfl <| Zs rfl rfl rfl <| Zs rfl rfl rfl <| Zi rfl rfl <| Zn rfl (Zq rfl rfl) <| gr rfl (Zq rfl rfl) <| gA <| Zk rfl <| Zu <| Ze <| Zb <| Za <| gas rfl rfl <| gA <| Zp <| Zz (.inl rfl) Tryz.results86 rfl [0, 1] (by decide) ?_
            refine ⟨congrArg (Value.int .i64) (Eq.symm ?_), rfl⟩
            unfold cpE
            rw [if_neg (by omega)]
            rw [if_neg (by simp [*])]
            rw [if_neg]
            rw [Bool.not_eq_true]
            (simp only [Z9] at *; unfold WQ; rw [h64]; clear h64; simp at *; omega)
          refine Zi rfl rfl <| Zn rfl (rd_not rfl) <| gr rfl (Zq rfl rfl) <| gm rfl rfl <| Zs rfl rfl rfl <| Zs rfl rfl rfl <| Zs rfl rfl rfl <| Yk rfl rfl rfl <| Yk rfl rfl rfl <| Yk rfl rfl rfl <| Zs rfl rfl rfl <| gr rfl (ZB rfl rfl) <| gA <| Zj rfl <| Zb <| Za <| gas rfl rfl <| gA <| Zp <| Zg <| Zz (.inl rfl) Tryz.results86 rfl [0, 1] (by decide) ?_
          refine ⟨congrArg (Value.int .i64) (Eq.symm ?_), rfl⟩
          unfold cpE
          rw [if_neg (by omega)]
          rw [if_neg (by simp [*])]
          rw [if_pos]
          (simp only [Z9] at *; unfold WQ; simp at *; omega)
        refine Zi rfl rfl <| Zn rfl (ZB rfl rfl) <| gr rfl (Zq rfl rfl) <| gas rfl rfl <| gA <| Zb <| Zb <| Za <| gm rfl rfl <| gr rfl (rd_not rfl) <| gm rfl rfl <| Zs rfl rfl rfl <| Zs rfl rfl rfl <| Zs rfl rfl rfl <| Zs rfl rfl rfl <| gr rfl (ZB rfl rfl) <| gm rfl rfl <| Zs rfl rfl rfl <| Zs rfl rfl rfl <| Zs rfl rfl rfl <| Yk rfl rfl rfl <| Yk rfl rfl rfl <| Yk rfl rfl rfl <| Zs rfl rfl rfl <| gr rfl (ZB rfl rfl) ?_
        refine gA <| Zj rfl <| Zb <| Za <| gas rfl rfl <| gA <| Zp <| Zg <| Zz (.inl rfl) Tryz.results86 rfl [0, 1] (by decide) ?_
        refine ⟨congrArg (Value.int .i64) (Eq.symm ?_), rfl⟩
        unfold cpE
        rw [if_neg (by omega)]
        rw [if_neg (by simp [*])]
        rw [if_pos]
        (simp [WQ, *]; done)
      refine Zi rfl rfl <| Zn rfl (Zm rfl) <| Zs rfl rfl rfl <| Zs rfl rfl rfl <| Zs rfl rfl rfl <| Zs rfl rfl rfl <| Zs rfl rfl rfl <| Zi rfl rfl <| Zn rfl (Zq rfl rfl) <| gr rfl (Zq rfl rfl) <| gas rfl rfl <| gA <| Zb <| Zb <| Za <| gm rfl rfl <| gr rfl (rd_not rfl) <| gm rfl rfl <| Zs rfl rfl rfl <| Zs rfl rfl rfl <| Zs rfl rfl rfl <| Zs rfl rfl rfl <| gr rfl (ZB rfl rfl) <| gm rfl rfl <| Zs rfl rfl rfl <| Zs rfl rfl rfl ?_
      refine Zs rfl rfl rfl <| Yk rfl rfl rfl <| Yk rfl rfl rfl <| Yk rfl rfl rfl <| Zs rfl rfl rfl <| gr rfl (ZB rfl rfl) <| gA <| Zj rfl <| Zb <| Za <| gas rfl rfl <| gA <| Zp <| Zg <| Zz (.inl rfl) Tryz.results86 rfl [0, 1] (by decide) ?_
      refine ⟨congrArg (Value.int .i64) (Eq.symm ?_), rfl⟩
      unfold cpE
      rw [if_neg (by omega)]
      rw [if_neg (by simp [*])]
      rw [if_pos]
      (simp [WQ, *]; done)
    replace hw31 : XO x.dst s.ds.length = false := by
      unfold XO; unfold Z9 at hw31; rw [Bool.eq_iff_iff] at hw31 ⊢; simp at hw31 ⊢; omega
    refine Zi rfl rfl <| Zn rfl (rd_not rfl) <| gr rfl (Zq rfl rfl) <| gA <| Zj rfl <| Zb <| Za <| gas rfl rfl <| gA <| Zp <| Zg <| Zz (.inl rfl) Tryz.results86 rfl [0, 1] (by decide) ?_
    refine ⟨congrArg (Value.int .i64) (Eq.symm ?_), rfl⟩
    unfold cpE
    rw [if_neg (by omega)]
    rw [if_pos]
    simp [*]
  replace hw25 : XO x.src s.ds.length = false := by
    unfold XO; unfold Z9 at hw25; rw [Bool.eq_iff_iff] at hw25 ⊢; simp at hw25 ⊢; omega
  refine gr rfl (rd_not rfl) <| gm rfl rfl <| Zs rfl rfl rfl <| Zs rfl rfl rfl <| Zs rfl rfl rfl <| Zs rfl rfl rfl <| Zs rfl rfl rfl <| gr rfl (ZB rfl rfl) <| gA <| Zj rfl <| Zb <| Za <| gas rfl rfl <| gA <| Zp <| Zg <| Zz (.inl rfl) Tryz.results86 rfl [0, 1] (by decide) ?_
  refine ⟨congrArg (Value.int .i64) (Eq.symm ?_), rfl⟩
  unfold cpE
  rw [if_neg (by omega)]
  rw [if_pos]
  simp [*]
theorem part_ok (s : Org) (cb mb : Nat) (d : Dv) (p : Pt) (hsrl : s.rs.length ≤ 40) (hd0 : 0 ≤ d.lo) (hd1 : d.hi ≤ 127) (hrk : ∀ r ∈ s.rs, 0 ≤ r.low ∧ r.low ≤ 127 ∧ 1 ≤ r.count ∧ r.count ≤ 97) (w0 : World) (hC : Cells w0 ⟨cb, 0, none⟩ [.slice s.da s.ds.length s.dc, .slice s.ra s.rs.length s.rc, .slice s.sa s.ss.length s.sc, .slice s.ca s.cs.length s.cc, .map (some mb)]) (hR : OldSl w0 [] s.ra s.rs.length 6 (s.rs.flatMap Rk.cells)) : Sp Tryz.prog 83 [.pointer (some ⟨cb, 0, none⟩), d.val, p.val] w0 [] (RV (.int .i64 (Y8 s.rs d p))) := by
  refine ZA Tryz.func83 rfl Tryz.ntmps83 rfl (Own.refl _) ?_
  simp only [ZT]
  refine Zb <| Za <| Zl (Yc rfl rfl rfl (fun b4 => ?_))
  refine Zl (Yc rfl rfl rfl (fun b5 => ?_))
  refine gas rfl rfl <| gA <| Zb <| Zb <| ZP [0, 1] true 10 rfl <| Zc 0 rfl rfl ⟨[0, 1], by decide, rfl⟩ (Zf (Zd rfl (Zmj _))) ?_
  refine Zc 1 rfl rfl ⟨[0, 1], by decide, rfl⟩ (Zf (Zh Tryz.underlying3 rfl rfl (by exact Zo 0 rfl rfl))) ?_
  refine Zc 2 rfl rfl ⟨[0, 1], by decide, rfl⟩ (Zf (Zm rfl)) ?_
  refine Zc 3 rfl rfl ⟨[0, 1], by decide, rfl⟩ (Zf (ZI rfl)) ?_
  refine Zc 4 rfl rfl ⟨[0, 1], by decide, rfl⟩ (Zf (Zd rfl (Zbk _))) ?_
  refine Zc 5 rfl rfl ⟨[0, 1], by decide, rfl⟩ (Zf (Zd rfl (Zdd _))) ?_
  refine Zc 6 rfl rfl ⟨[0, 1], by decide, rfl⟩ (Zf (Zh Tryz.underlying41 rfl rfl (by exact Yd (by assumption) (by simp) rfl))) ?_
  refine Zc 7 rfl rfl ⟨[0, 1], by decide, rfl⟩ (Zf (ZF Tryz.underlying41 rfl)) ?_
  refine Zc 8 rfl rfl ⟨[0, 1], by decide, rfl⟩ (Zf (by exact W2 rfl rfl (by omega) (by omega))) ?_
  refine Zc 9 rfl rfl ⟨[0, 1], by decide, rfl⟩ (YC (vf := []) (vc := []) rfl rfl Tryz.call113 (fun w1 ho => YP _ _ _ w1) (by rintro _ _ ⟨h, _⟩; exact h)) ?_
  refine Z3 (fun hw17 => ?_) (fun hw17 => ?_)
  · replace hw17 : XO p.rank s.rs.length = true := by
      unfold XO; unfold Z9 at hw17; rw [Bool.eq_iff_iff] at hw17 ⊢; simp at hw17 ⊢; omega
    have hix := hw17
    obtain ⟨hx0, hx1⟩ : 0 ≤ p.rank ∧ p.rank < s.rs.length := by unfold XO at hix; simpa using hix
    obtain ⟨r, hx⟩ := get_some (show p.rank.toNat < s.rs.length by omega)
    have hxd := getD_some (d := default) hx
    have hrr := hrk r (List.mem_of_getElem? hx)
    refine Zc 10 rfl rfl ⟨[0, 1], by decide, rfl⟩ (Zf (rd_not rfl)) ?_
    refine ZS (.inr ⟨[0, 1], by decide, rfl⟩) ?_
    refine Ze <| Zk rfl <| Zu <| Ze <| Zb <| Zb <| Za <| gr rfl (Zd rfl (Zhk _)) <| gr rfl (Zh Tryz.underlying3 rfl rfl (by exact Zo 0 rfl rfl)) ?_
    refine gr rfl (Zd rfl (Zbi _)) <| gr rfl (Zh Tryz.underlying3 rfl rfl (by exact Zo 1 rfl rfl)) ?_
    refine gr rfl (Zd rfl (Zeb _)) <| gr rfl (Zh Tryz.underlying3 rfl rfl (by exact Zo 1 rfl rfl)) ?_
    refine Zl (ZD rfl (vf := []) (vc := []) rfl rfl Tryz.call113 (fun w1 ho => YP _ _ _ w1) ?_)
    rintro _ _ ⟨rfl, rfl⟩
    refine Z3 (fun hw25 => ?_) (fun hw25 => ?_)
    · refine gr rfl (rd_not rfl) <| gm rfl rfl <| Zi rfl rfl <| Zn rfl (Zd rfl (Zmk _)) <| Zi rfl rfl (Zn rfl (Zh Tryz.underlying3 rfl rfl (by exact Zo 0 rfl rfl)) ?_)
      refine Zi rfl rfl <| Zn rfl (Zd rfl (Zhk _)) <| Zi rfl rfl (Zn rfl (Zh Tryz.underlying3 rfl rfl (by exact Zo 0 rfl rfl)) ?_)
      refine Zi rfl rfl <| Zn rfl (Zd rfl (Zeb _)) <| Zi rfl rfl (Zn rfl (Zh Tryz.underlying3 rfl rfl (by exact Zo 1 rfl rfl)) ?_)
      refine Zi rfl rfl (ZD rfl (vf := []) (vc := []) rfl rfl Tryz.call113 (fun w1 ho => YP _ _ _ w1) ?_)
      rintro _ _ ⟨rfl, rfl⟩
      refine Z3 (fun hw34 => ?_) (fun hw34 => ?_)
      · refine Zi rfl rfl <| Zn rfl (rd_not rfl) <| gr rfl (Zq rfl rfl) <| gm rfl rfl <| Zi rfl rfl <| Zn rfl (Zd rfl (Zhj _)) <| Zi rfl rfl (Zn rfl (Zh Tryz.underlying3 rfl rfl (by exact Zo 0 rfl rfl)) ?_)
        refine Zi rfl rfl (ZD rfl (vf := []) (vc := []) rfl rfl Tryz.call113 (fun w1 ho => YP _ _ _ w1) ?_)
        rintro _ _ ⟨rfl, rfl⟩
        refine Z3 (fun hw40 => ?_) (fun hw40 => ?_)
        · refine Zi rfl rfl <| Zn rfl (rd_not rfl) <| gr rfl (Zq rfl rfl) <| gA <| Zk rfl <| Zu <| Ze <| Zb <| Zb ?_
          have hrg : Jf d p = true := by
            unfold Jf
            simp only [Z9, Bool.and_eq_true, decide_eq_true_eq] at *
            omega
          obtain ⟨hr1, hr2, hr3, hr4, hr5⟩ : d.lo ≤ p.lo ∧ p.lo ≤ p.hi ∧ p.hi ≤ d.hi ∧ -96 ≤ p.shift ∧ p.shift ≤ 96 := by
            simp only [Z9, Bool.and_eq_true, decide_eq_true_eq] at *
            omega
          refine ZP [0, 1] false 10 rfl <| Zc 0 rfl rfl ⟨[0, 1], by decide, rfl⟩ (Zf (Zm rfl)) ?_
          refine Zc 1 rfl rfl ⟨[0, 1], by decide, rfl⟩ (Zf (ZI rfl)) ?_
          refine Zc 2 rfl rfl ⟨[0, 1], by decide, rfl⟩ (Zf (Zd rfl (Zbk _))) ?_
          refine Zc 3 rfl rfl ⟨[0, 1], by decide, rfl⟩ (Zf (Zd rfl (Zdd _))) ?_
          refine Zc 4 rfl rfl ⟨[0, 1], by decide, rfl⟩ (Zf (Zh Tryz.underlying41 rfl rfl (by exact Yd (by assumption) (by simp) rfl))) ?_
          refine Zc 5 rfl rfl ⟨[0, 1], by decide, rfl⟩ (Zf (Zd rfl (Zmj _))) ?_
          refine Zc 6 rfl rfl ⟨[0, 1], by decide, rfl⟩ (Zf (Zh Tryz.underlying3 rfl rfl (by exact Zo 0 rfl rfl))) ?_
          refine Zc 7 rfl rfl ⟨[0, 1], by decide, rfl⟩ (Zf (YG hR Tryz.underlying41 Jg rfl rfl (by omega) (by omega))) ?_
          refine Zc 8 rfl rfl ⟨[0, 1], by decide, rfl⟩ (Zf (Zt Tryz.underlying111 rfl Jg rfl (cs_sl hR (YT Rk.cells 6 (fun _ => rfl) hx)) rfl)) ?_
          refine ZG 9 rfl (.inr ⟨[0, 1], by decide, rfl⟩) (ZN Jg rfl rfl (fun b7 => ?_))
          refine ZG 10 rfl (.inr ⟨[1, 2], by decide, rfl⟩) (Zy 0 Jg rfl rfl rfl rfl rfl rfl (by rfl) ?_)
          refine ZS (.inl (by kernel_rfl)) ?_
          refine Ze <| Zb <| Za <| gr rfl (Zd rfl (Zhk _)) <| gr rfl (Zh Tryz.underlying3 rfl rfl (by exact Zo 1 rfl rfl)) ?_
          refine gr rfl (Zd rfl (Zhj _)) <| gr rfl (Zh Tryz.underlying3 rfl rfl (by exact Zo 1 rfl rfl)) ?_
          refine gr rfl (by exact WJ rfl rfl (by omega) (by omega)) ?_
          refine gr rfl (Zd rfl (Zec _)) <| gr rfl (Zh Tryz.underlying3 rfl rfl (by exact Zo 0 rfl rfl)) ?_
          refine gr rfl (Z2 rfl rfl) (Zx (fun h59 => ?_) (fun h59 => ?_))
          · refine gm rfl rfl <| Zs rfl rfl rfl <| Zs rfl rfl rfl <| Zs rfl rfl rfl <| Zs rfl rfl rfl <| Zs rfl rfl rfl <| Zs rfl rfl rfl <| Zs rfl rfl rfl <| Zs rfl rfl rfl <| Zs rfl rfl rfl <| Zs rfl rfl rfl <| Zs rfl rfl rfl <| gr rfl (ZB rfl rfl) <| gA <| Zj rfl <| Zb <| Za <| gas rfl rfl <| gA <| Zp <| Zg <| Zz (.inl rfl) Tryz.results83 rfl [] (by decide) ?_
            refine ⟨congrArg (Value.int .i64) (Eq.symm ?_), rfl⟩
            unfold Y8
            rw [if_neg (by rw [hix]; decide)]
            rw [if_neg (by rw [hrg]; decide)]
            rw [if_pos]
            rw [hxd]
            unfold Zi3
            try simp only [Z9] at *
            simp only [Bool.not_eq_true', Bool.not_eq_false', Bool.and_eq_false_iff, Bool.and_eq_true, decide_eq_true_eq, decide_eq_false_iff_not] at *
            omega
          refine gm rfl rfl <| Zi rfl rfl <| Zn rfl (Zd rfl (Zmk _)) <| Zi rfl rfl (Zn rfl (Zh Tryz.underlying3 rfl rfl (by exact Zo 1 rfl rfl)) ?_)
          refine Zi rfl rfl <| Zn rfl (Zd rfl (Zhj _)) <| Zi rfl rfl (Zn rfl (Zh Tryz.underlying3 rfl rfl (by exact Zo 1 rfl rfl)) ?_)
          refine Zi rfl rfl (Zn rfl (by exact WJ rfl rfl (by omega) (by omega)) ?_)
          refine Zi rfl rfl <| Zn rfl (Zd rfl (Zec _)) <| Zi rfl rfl (Zn rfl (Zh Tryz.underlying3 rfl rfl (by exact Zo 0 rfl rfl)) ?_)
          refine Zi rfl rfl <| Zn rfl (Zd rfl (Zed _)) <| Zi rfl rfl (Zn rfl (Zh Tryz.underlying3 rfl rfl (by exact Zo 0 rfl rfl)) ?_)
          refine Zi rfl rfl (Zn rfl (by exact WJ rfl rfl (by omega) (by omega)) ?_)
          refine Zi rfl rfl (Zn rfl (Wh rfl rfl) (Zx (fun h71 => ?_) (fun h71 => ?_)))
          · refine gr rfl (Zq rfl rfl) <| gA <| Zj rfl <| Zb <| Za <| gas rfl rfl <| gA <| Zp <| Zg <| Zz (.inl rfl) Tryz.results83 rfl [] (by decide) ?_
            refine ⟨congrArg (Value.int .i64) (Eq.symm ?_), rfl⟩
            unfold Y8
            rw [if_neg (by rw [hix]; decide)]
            rw [if_neg (by rw [hrg]; decide)]
            rw [if_pos]
            rw [hxd]
            unfold Zi3
            try simp only [Z9] at *
            simp only [Bool.not_eq_true', Bool.not_eq_false', Bool.and_eq_false_iff, Bool.and_eq_true, decide_eq_true_eq, decide_eq_false_iff_not] at *
            omega
          refine gr rfl (Zq rfl rfl) <| gA <| Zk rfl <| Zu <| Ze <| Zb <| Za <| gas rfl rfl <| gA <| Zp <| Zz (.inl rfl) Tryz.results83 rfl [] (by decide) ?_
          refine ⟨congrArg (Value.int .i64) (Eq.symm ?_), rfl⟩
          unfold Y8
          rw [if_neg (by rw [hix]; decide)]
          rw [if_neg (by rw [hrg]; decide)]
          rw [if_neg]
          rw [Bool.not_eq_false, hxd]
          unfold Zi3
          try simp only [Z9] at *
          simp only [Bool.not_eq_true', Bool.not_eq_false', Bool.and_eq_false_iff, Bool.and_eq_true, decide_eq_true_eq, decide_eq_false_iff_not] at *
          omega
        refine Zi rfl rfl <| Zn rfl (rd_not rfl) <| gr rfl (Zq rfl rfl) <| gA <| Zj rfl <| Zb <| Za <| gas rfl rfl <| gA <| Zp <| Zg <| Zz (.inl rfl) Tryz.results83 rfl [] (by decide) ?_
        refine ⟨congrArg (Value.int .i64) (Eq.symm ?_), rfl⟩
        unfold Y8
        rw [if_neg (by rw [hix]; decide)]
        rw [if_pos]
        unfold Jf
        try simp only [Z9] at *
        simp only [Bool.not_eq_true', Bool.not_eq_false', Bool.and_eq_false_iff, Bool.and_eq_true, decide_eq_true_eq, decide_eq_false_iff_not] at *
        omega
      refine Zi rfl rfl <| Zn rfl (rd_not rfl) <| gr rfl (Zq rfl rfl) <| gm rfl rfl <| Zs rfl rfl rfl <| Zs rfl rfl rfl <| Zs rfl rfl rfl <| Zs rfl rfl rfl <| gr rfl (ZB rfl rfl) <| gA <| Zj rfl <| Zb <| Za <| gas rfl rfl <| gA <| Zp <| Zg <| Zz (.inl rfl) Tryz.results83 rfl [] (by decide) ?_
      refine ⟨congrArg (Value.int .i64) (Eq.symm ?_), rfl⟩
      unfold Y8
      rw [if_neg (by rw [hix]; decide)]
      rw [if_pos]
      unfold Jf
      try simp only [Z9] at *
      simp only [Bool.not_eq_true', Bool.not_eq_false', Bool.and_eq_false_iff, Bool.and_eq_true, decide_eq_true_eq, decide_eq_false_iff_not] at *
      omega
    refine gr rfl (rd_not rfl) <| gm rfl rfl <| Zs rfl rfl rfl <| Zs rfl rfl rfl <| Zs rfl rfl rfl <| Zs rfl rfl rfl <| Zs rfl rfl rfl <| Zs rfl rfl rfl <| Zs rfl rfl rfl <| Zs rfl rfl rfl <| gr rfl (ZB rfl rfl) <| gm rfl rfl <| Zs rfl rfl rfl <| Zs rfl rfl rfl <| Zs rfl rfl rfl <| Zs rfl rfl rfl <| gr rfl (ZB rfl rfl) <| gA <| Zj rfl <| Zb <| Za <| gas rfl rfl <| ZU <| Ze ?_
    refine Zp <| Zg <| Zz (.inl rfl) Tryz.results83 rfl [] (by decide) ?_
    refine ⟨congrArg (Value.int .i64) (Eq.symm ?_), rfl⟩
    unfold Y8
    rw [if_neg (by rw [hix]; decide)]
    rw [if_pos]
    unfold Jf
    try simp only [Z9] at *
    simp only [Bool.not_eq_true', Bool.not_eq_false', Bool.and_eq_false_iff, Bool.and_eq_true, decide_eq_true_eq, decide_eq_false_iff_not] at *
    omega
  replace hw17 : XO p.rank s.rs.length = false := by
    unfold XO; unfold Z9 at hw17; rw [Bool.eq_iff_iff] at hw17 ⊢; simp at hw17 ⊢; omega
  have hix := hw17
  refine Zc 10 rfl rfl ⟨[0, 1], by decide, rfl⟩ (Zf (rd_not rfl)) ?_
  refine ZS (.inr ⟨[0, 1], by decide, rfl⟩) ?_
  refine Ze <| Zj rfl <| Zb <| Za <| gas rfl rfl <| gA <| Zp <| Zg <| Zz (.inl rfl) Tryz.results83 rfl [] (by decide) ?_
  refine ⟨congrArg (Value.int .i64) (Eq.symm ?_), rfl⟩
  unfold Y8
  rw [if_pos hix]
theorem Znr (s : Org) (cb mb : Nat) (K : List ByteArray) (l : List Dv) (a : Option Addr) (cp : Nat) (hl : l.length ≤ 140737488355328) (hn : ∀ x ∈ l, x.name.size ≤ 140737488355328) (w0 : World) (hown : Own w0 [cb, mb] w0 [CB s cb mb, OB mb K]) (hsl : OldSl w0 [cb, mb] a l.length 3 (l.flatMap Dv.cells)) : Sp Tryz.prog 77 [.slice a l.length cp, .func (.func 78) #[.pointer (some ⟨cb, 0, none⟩)] #[]] w0 [cb, mb] (fun v L => v = .tuple #[natV (YK dvE dvK K l 0).1.1, .int .i64 (YK dvE dvK K l 0).1.2] ∧ L = [CB s cb mb, OB mb (YK dvE dvK K l 0).2]) := by
  unfold CB OB at hown
  refine ZA Tryz.func77 rfl Tryz.ntmps77 rfl hown ?_
  simp only [ZT]
  refine Zb <| Za <| gas rfl rfl <| gas rfl rfl <| gA <| Zb <| Zb <| Za <| gm rfl rfl <| gr rfl (ZF Tryz.underlying40 rfl) <| gm rfl rfl <| gA <| ZC <| Z0 (ι := Nat × List ByteArray) [(1, _), (9, _), (10, _)] [_] (fun j => j.1 ≤ l.length ∧ YK dvE dvK K l 0 = YK dvE dvK j.2 (l.drop j.1) j.1) (fun j Fr0 => ((11, natV j.1) :: Fr0)) (fun j Fr0 => (.obj mb (JA j.2) :: Fr0)) (fun j => l.length - j.1) (0, K) (⟨Nat.zero_le _, rfl⟩) ⟨rfl, rfl, rfl, rfl, trivial⟩ ⟨[1, 0], by decide, rfl⟩ ?_
  rintro ⟨k, K1⟩ ⟨hk, hrun⟩
  simp only at hk hrun ⊢
  refine Zb <| Za <| gr rfl (Z2 rfl rfl) (Zx (fun h12 => ?_) (fun h12 => ?_))
  · obtain ⟨x, hx⟩ := get_some (show k < l.length by omega)
    have hxm := List.mem_of_getElem? hx
    refine gA <| Zb <| Zj rfl <| Zu <| Ze <| Zb <| ZC <| Zb <| Za <| gm rfl rfl <| gr rfl (by exact YG (by assumption) Tryz.underlying40 JD rfl rfl (by omega) (by omega)) ?_
    refine gr rfl (Zt Tryz.underlying109 rfl JD rfl (Zai hsl (YT Dv.cells 3 (fun _ => rfl) hx)) rfl) ?_
    refine Zl (ZN JD rfl rfl (fun b7 => ?_))
    refine gas rfl rfl <| Zl (Zy 0 JD rfl rfl rfl rfl rfl rfl (by rfl) ?_)
    refine gA <| Zb <| Za <| gm rfl rfl <| gr rfl (Zt Tryz.underlying109 rfl JD rfl (by exact ZH 0 (off := 0) (k := 3) rfl rfl) rfl) ?_
    simp only [Dv.cells]
    refine Zl (Yf [2, 1] [0] rfl (vf := [.pointer (some ⟨cb, 0, none⟩)]) (vc := []) rfl rfl Tryz.call78 (by decide) rfl (fun w how hc => Zjp s cb mb K1 x (hn x hxm) w hc) ?_)
    rintro _ _ ⟨rfl, rfl⟩
    refine gas rfl rfl <| gA <| Zb <| Za <| gm rfl rfl <| gr rfl (ZX rfl rfl) (Zx (fun h20 => ?_) (fun h20 => ?_))
    · refine gA <| Zj rfl <| Zb <| Za <| gm rfl rfl <| gm rfl rfl <| gas rfl rfl <| gas rfl rfl <| gA <| Zp <| Zw <| Zg <| Zg <| Zw <| Zg <| YI (.inl rfl) Tryz.results77 rfl rfl [0, 1] (by decide) ?_
      rw [hrun, Ji hx, if_pos (by omega)]
      exact ⟨rfl, rfl⟩
    refine gA <| Zk rfl <| Zu <| ZM <| Ze <| Za <| gr rfl (by exact ZQ (b := 1) rfl rfl (by omega)) ?_
    refine gm rfl rfl <| ZU <| Ze ?_
    exact ZZ ((k + 1, dvK K1 x)) ⟨⟨by simp only; omega, by simp only; rw [hrun, Ji hx, if_neg (by omega)]⟩, by simp only; omega⟩ ⟨rfl, rfl, rfl, rfl, trivial⟩ ⟨[1, 0], by decide, rfl⟩
  refine gA <| Zb <| Zk rfl <| Z1 <| Zr <| Zr <| ZE <| Ze <| Zb <| Za <| gas rfl rfl <| gas rfl rfl <| gA <| Zp <| YI (.inl rfl) Tryz.results77 rfl rfl [1, 0] (by decide) ?_
  rw [hrun, List.drop_eq_nil_of_le (by omega)]
  exact ⟨rfl, rfl⟩
theorem Zns (s : Org) (cb mb : Nat) (K : List ByteArray) (l : List Rk) (a : Option Addr) (cp : Nat) (hl : l.length ≤ 140737488355328) (hn : ∀ x ∈ l, x.name.size ≤ 140737488355328) (w0 : World) (hown : Own w0 [cb, mb] w0 [CB s cb mb, OB mb K]) (hsl : OldSl w0 [cb, mb] a l.length 6 (l.flatMap Rk.cells)) : Sp Tryz.prog 79 [.slice a l.length cp, .func (.func 80) #[.pointer (some ⟨cb, 0, none⟩)] #[]] w0 [cb, mb] (fun v L => v = .tuple #[natV (YK rkE rkK K l 0).1.1, .int .i64 (YK rkE rkK K l 0).1.2] ∧ L = [CB s cb mb, OB mb (YK rkE rkK K l 0).2]) := by
  unfold CB OB at hown
  refine ZA Tryz.func79 rfl Tryz.ntmps79 rfl hown ?_
  simp only [ZT]
  refine Zb <| Za <| gas rfl rfl <| gas rfl rfl <| gA <| Zb <| Zb <| Za <| gm rfl rfl <| gr rfl (ZF Tryz.underlying41 rfl) <| gm rfl rfl <| gA <| ZC <| Z0 (ι := Nat × List ByteArray) [(1, _), (9, _), (10, _)] [_] (fun j => j.1 ≤ l.length ∧ YK rkE rkK K l 0 = YK rkE rkK j.2 (l.drop j.1) j.1) (fun j Fr0 => ((11, natV j.1) :: Fr0)) (fun j Fr0 => (.obj mb (JA j.2) :: Fr0)) (fun j => l.length - j.1) (0, K) (⟨Nat.zero_le _, rfl⟩) ⟨rfl, rfl, rfl, rfl, trivial⟩ ⟨[1, 0], by decide, rfl⟩ ?_
  rintro ⟨k, K1⟩ ⟨hk, hrun⟩
  simp only at hk hrun ⊢
  refine Zb <| Za <| gr rfl (Z2 rfl rfl) (Zx (fun h12 => ?_) (fun h12 => ?_))
  · obtain ⟨x, hx⟩ := get_some (show k < l.length by omega)
    have hxm := List.mem_of_getElem? hx
    refine gA <| Zb <| Zj rfl <| Zu <| Ze <| Zb <| ZC <| Zb <| Za <| gm rfl rfl <| gr rfl (by exact YG (by assumption) Tryz.underlying41 Jg rfl rfl (by omega) (by omega)) ?_
    refine gr rfl (Zt Tryz.underlying111 rfl Jg rfl (Zai hsl (YT Rk.cells 6 (fun _ => rfl) hx)) rfl) ?_
    refine Zl (ZN Jg rfl rfl (fun b7 => ?_))
    refine gas rfl rfl <| Zl (Zy 0 Jg rfl rfl rfl rfl rfl rfl (by rfl) ?_)
    refine gA <| Zb <| Za <| gm rfl rfl <| gr rfl (Zt Tryz.underlying111 rfl Jg rfl (by exact ZH 0 (off := 0) (k := 6) rfl rfl) rfl) ?_
    simp only [Rk.cells]
    refine Zl (Yf [2, 1] [0] rfl (vf := [.pointer (some ⟨cb, 0, none⟩)]) (vc := []) rfl rfl Tryz.call80 (by decide) rfl (fun w how hc => rank_ok s cb mb K1 x (hn x hxm) w hc) ?_)
    rintro _ _ ⟨rfl, rfl⟩
    refine gas rfl rfl <| gA <| Zb <| Za <| gm rfl rfl <| gr rfl (ZX rfl rfl) (Zx (fun h20 => ?_) (fun h20 => ?_))
    · refine gA <| Zj rfl <| Zb <| Za <| gm rfl rfl <| gm rfl rfl <| gas rfl rfl <| gas rfl rfl <| gA <| Zp <| Zw <| Zg <| Zg <| Zw <| Zg <| YI (.inl rfl) Tryz.results79 rfl rfl [0, 1] (by decide) ?_
      rw [hrun, Ji hx, if_pos (by omega)]
      exact ⟨rfl, rfl⟩
    refine gA <| Zk rfl <| Zu <| ZM <| Ze <| Za <| gr rfl (by exact ZQ (b := 1) rfl rfl (by omega)) ?_
    refine gm rfl rfl <| ZU <| Ze ?_
    exact ZZ ((k + 1, rkK K1 x)) ⟨⟨by simp only; omega, by simp only; rw [hrun, Ji hx, if_neg (by omega)]⟩, by simp only; omega⟩ ⟨rfl, rfl, rfl, rfl, trivial⟩ ⟨[1, 0], by decide, rfl⟩
  refine gA <| Zb <| Zk rfl <| Z1 <| Zr <| Zr <| ZE <| Ze <| Zb <| Za <| gas rfl rfl <| gas rfl rfl <| gA <| Zp <| YI (.inl rfl) Tryz.results79 rfl rfl [1, 0] (by decide) ?_
  rw [hrun, List.drop_eq_nil_of_le (by omega)]
  exact ⟨rfl, rfl⟩
theorem Znt (s : Org) (cb mb : Nat) (K : List ByteArray) (l : List Cp) (a : Option Addr) (cp : Nat) (hl : l.length ≤ 140737488355328) (hn : ∀ x ∈ l, x.name.size ≤ 140737488355328) (hsd : s.ds.length ≤ 6) (w0 : World) (hown : Own w0 [cb, mb] w0 [CB s cb mb, OB mb K]) (hsl : OldSl w0 [cb, mb] a l.length 6 (l.flatMap Cp.cells)) : Sp Tryz.prog 85 [.slice a l.length cp, .func (.func 86) #[.pointer (some ⟨cb, 0, none⟩)] #[]] w0 [cb, mb] (fun v L => v = .tuple #[natV (YK (cpE s.ds.length) cpK K l 0).1.1, .int .i64 (YK (cpE s.ds.length) cpK K l 0).1.2] ∧ L = [CB s cb mb, OB mb (YK (cpE s.ds.length) cpK K l 0).2]) := by
  unfold CB OB at hown
  refine ZA Tryz.func85 rfl Tryz.ntmps85 rfl hown ?_
  simp only [ZT]
  refine Zb <| Za <| gas rfl rfl <| gas rfl rfl <| gA <| Zb <| Zb <| Za <| gm rfl rfl <| gr rfl (ZF Tryz.underlying43 rfl) <| gm rfl rfl <| gA <| ZC <| Z0 (ι := Nat × List ByteArray) [(1, _), (9, _), (10, _)] [_] (fun j => j.1 ≤ l.length ∧ YK (cpE s.ds.length) cpK K l 0 = YK (cpE s.ds.length) cpK j.2 (l.drop j.1) j.1) (fun j Fr0 => ((11, natV j.1) :: Fr0)) (fun j Fr0 => (.obj mb (JA j.2) :: Fr0)) (fun j => l.length - j.1) (0, K) (⟨Nat.zero_le _, rfl⟩) ⟨rfl, rfl, rfl, rfl, trivial⟩ ⟨[1, 0], by decide, rfl⟩ ?_
  rintro ⟨k, K1⟩ ⟨hk, hrun⟩
  simp only at hk hrun ⊢
  refine Zb <| Za <| gr rfl (Z2 rfl rfl) (Zx (fun h12 => ?_) (fun h12 => ?_))
  · obtain ⟨x, hx⟩ := get_some (show k < l.length by omega)
    have hxm := List.mem_of_getElem? hx
    refine gA <| Zb <| Zj rfl <| Zu <| Ze <| Zb <| ZC <| Zb <| Za <| gm rfl rfl <| gr rfl (by exact YG (by assumption) Tryz.underlying43 Zal rfl rfl (by omega) (by omega)) ?_
    refine gr rfl (Zt Tryz.underlying113 rfl Zal rfl (Zai hsl (YT Cp.cells 6 (fun _ => rfl) hx)) rfl) ?_
    refine Zl (ZN Zal rfl rfl (fun b7 => ?_))
    refine gas rfl rfl <| Zl (Zy 0 Zal rfl rfl rfl rfl rfl rfl (by rfl) ?_)
    refine gA <| Zb <| Za <| gm rfl rfl <| gr rfl (Zt Tryz.underlying113 rfl Zal rfl (by exact ZH 0 (off := 0) (k := 6) rfl rfl) rfl) ?_
    simp only [Cp.cells]
    refine Zl (Yf [2, 1] [0] rfl (vf := [.pointer (some ⟨cb, 0, none⟩)]) (vc := []) rfl rfl Tryz.call86 (by decide) rfl (fun w how hc => Zld s cb mb K1 x (hn x hxm) hsd w hc) ?_)
    rintro _ _ ⟨rfl, rfl⟩
    refine gas rfl rfl <| gA <| Zb <| Za <| gm rfl rfl <| gr rfl (ZX rfl rfl) (Zx (fun h20 => ?_) (fun h20 => ?_))
    · refine gA <| Zj rfl <| Zb <| Za <| gm rfl rfl <| gm rfl rfl <| gas rfl rfl <| gas rfl rfl <| gA <| Zp <| Zw <| Zg <| Zg <| Zw <| Zg <| YI (.inl rfl) Tryz.results85 rfl rfl [0, 1] (by decide) ?_
      rw [hrun, Ji hx, if_pos (by omega)]
      exact ⟨rfl, rfl⟩
    refine gA <| Zk rfl <| Zu <| ZM <| Ze <| Za <| gr rfl (by exact ZQ (b := 1) rfl rfl (by omega)) ?_
    refine gm rfl rfl <| ZU <| Ze ?_
    exact ZZ ((k + 1, cpK K1 x)) ⟨⟨by simp only; omega, by simp only; rw [hrun, Ji hx, if_neg (by omega)]⟩, by simp only; omega⟩ ⟨rfl, rfl, rfl, rfl, trivial⟩ ⟨[1, 0], by decide, rfl⟩
  refine gA <| Zb <| Zk rfl <| Z1 <| Zr <| Zr <| ZE <| Ze <| Zb <| Za <| gas rfl rfl <| gas rfl rfl <| gA <| Zp <| YI (.inl rfl) Tryz.results85 rfl rfl [1, 0] (by decide) ?_
  rw [hrun, List.drop_eq_nil_of_le (by omega)]
  exact ⟨rfl, rfl⟩
namespace Sx
structure PEnv (s : Org) (x : St) (cb mb b4 b1 b10 : Nat) (w : World) : Prop where
  fc : w.cell? ⟨b4, 0, none⟩ = some (.pointer (some ⟨cb, 0, none⟩))
  fs : Cells w ⟨b1, 0, none⟩ [.slice s.da s.ds.length s.dc, .slice s.ra s.rs.length s.rc, .slice s.sa s.ss.length s.sc, .slice s.ca s.cs.length s.cc]
  fx : Cells w ⟨b10, 0, none⟩ [.string x.name, .int .i64 x.div, .int .i64 x.num, .int .i64 x.den, .slice x.pa x.ps.length x.pc]
  fk : Cells w ⟨cb, 0, none⟩ [.slice s.da s.ds.length s.dc, .slice s.ra s.rs.length s.rc, .slice s.sa s.ss.length s.sc, .slice s.ca s.cs.length s.cc, .map (some mb)]
  fd : OldSl w [] s.da s.ds.length 3 (s.ds.flatMap Dv.cells)
  fr : OldSl w [] s.ra s.rs.length 6 (s.rs.flatMap Rk.cells)
theorem PEnv.at {s : Org} {x : St} {cb mb b4 b1 b10 : Nat} {w0 w : World} {l : List HL} (h : PEnv s x cb mb b4 b1 b10 w0) (ho : Own w0 [] w l) : PEnv s x cb mb b4 b1 b10 w :=
  ⟨ho.cellOld h.fc (by simp), h.fs.at ho, h.fx.at ho, h.fk.at ho, h.fd.at ho, h.fr.at ho⟩
structure PGood (s : Org) (x : St) (d : Dv) : Prop where
  rl : s.rs.length ≤ 40
  d0 : 0 ≤ d.lo
  d1 : d.hi ≤ 127
  rk : ∀ r ∈ s.rs, 0 ≤ r.low ∧ r.low ≤ 127 ∧ 1 ≤ r.count ∧ r.count ≤ 97
  x0 : 0 ≤ x.div
  dx : s.ds[x.div.toNat]? = some d
end Sx
open Sx
theorem partC_ok (s : Org) (x : St) (d : Dv) (cb mb b4 b1 b10 : Nat) (p : Pt) (hg : PGood s x d) (w0 : World) (he : PEnv s x cb mb b4 b1 b10 w0) : Sp Tryz.prog 82 [p.val, .pointer (some ⟨b4, 0, none⟩), .pointer (some ⟨b1, 0, none⟩), .pointer (some ⟨b10, 0, none⟩)] w0 [] (RV (.int .i64 (Y8 s.rs d p))) := by
  obtain ⟨hc, hs, hx, hk, hd, hr⟩ := he
  obtain ⟨hrl, hd0, hd1, hrk, hx0, hdx⟩ := hg
  have hdl : x.div.toNat < s.ds.length := (List.getElem?_eq_some_iff.1 hdx).1
  refine ZA Tryz.func82 rfl Tryz.ntmps82 rfl (Own.refl _) ?_
  simp only [ZT]
  refine Zb <| Za <| Zl (Yc rfl rfl rfl (fun b4 => ?_))
  refine gas rfl rfl <| gA <| Zb <| ZP [0] true 9 rfl <| Zc 0 rfl rfl ⟨[0], by decide, rfl⟩ (Zf (Zh Tryz.underlying148 rfl rfl (Vz hc (by simp)))) ?_
  refine Zc 1 rfl rfl ⟨[0], by decide, rfl⟩ (Zf (Zd rfl (Ww _))) ?_
  refine Zc 2 rfl rfl ⟨[0], by decide, rfl⟩ (Zf (Zh Tryz.underlying40 rfl rfl (Yd hs (by simp) rfl))) ?_
  refine Zc 3 rfl rfl ⟨[0], by decide, rfl⟩ (Zf (Zd rfl (Zde _))) ?_
  refine Zc 4 rfl rfl ⟨[0], by decide, rfl⟩ (Zf (Zh Tryz.underlying3 rfl rfl (Yd hx (by simp) rfl))) ?_
  refine Zc 5 rfl rfl ⟨[0], by decide, rfl⟩ (Zf (YG hd Tryz.underlying40 JD rfl rfl (by omega) (by omega))) ?_
  refine Zc 6 rfl rfl ⟨[0], by decide, rfl⟩ (Zf (Zt Tryz.underlying109 rfl JD rfl (cs_sl hd (YT Dv.cells 3 (fun _ => rfl) hdx)) rfl)) ?_
  refine Zc 7 rfl rfl ⟨[0], by decide, rfl⟩ (Zf (Zt Tryz.underlying96 rfl Zf7 rfl (by exact ZH 0 (off := 0) (k := 4) rfl rfl) rfl)) ?_
  simp only [Dv.cells]
  refine Zc 8 rfl rfl ⟨[0], by decide, rfl⟩ (YC (vf := []) (vc := []) rfl rfl Tryz.call83 (fun w1 ho => part_ok s cb mb d p hrl hd0 hd1 hrk w1 (hk.at ho) (hr.at ho)) (by rintro _ _ ⟨h, _⟩; exact h)) ?_
  refine Zc 9 rfl rfl ⟨[0], by decide, rfl⟩ (Zf (ZV rfl)) ?_
  refine ZS (.inr ⟨[0], by decide, rfl⟩) ?_
  refine Ze <| Zp <| Zz (.inl rfl) Tryz.results82 rfl [] (by decide) ?_
  exact ⟨rfl, rfl⟩
theorem Znu (s : Org) (x : St) (d : Dv) (cb mb b4 b1 b10 : Nat) (l : List Pt) (a : Option Addr) (cp : Nat) (hl : l.length ≤ 140737488355328) (hg : PGood s x d) (w0 : World) (he : PEnv s x cb mb b4 b1 b10 w0) (hsl : OldSl w0 [] a l.length 4 (l.flatMap Pt.cells)) : Sp Tryz.prog 84 [.slice a l.length cp, .func (.func 82) #[] #[.pointer (some ⟨b4, 0, none⟩), .pointer (some ⟨b1, 0, none⟩), .pointer (some ⟨b10, 0, none⟩)]] w0 [] (RV (.tuple #[natV (Jj s d l 0).1, .int .i64 (Jj s d l 0).2])) := by
  refine ZA Tryz.func84 rfl Tryz.ntmps84 rfl (Own.refl _) ?_
  simp only [ZT]
  refine Zb <| Za <| gas rfl rfl <| gas rfl rfl <| gA <| Zb <| Zb <| Za <| gm rfl rfl <| gr rfl (ZF Tryz.underlying97 rfl) <| gm rfl rfl <| gA <| ZC <| Z0 (ι := Nat) [(1, _), (9, _), (10, _)] [] (fun k => k ≤ l.length ∧ Jj s d l 0 = Jj s d (l.drop k) k) (fun k Fr0 => ((11, natV k) :: Fr0)) (fun k Fr0 => Fr0) (fun k => l.length - k) 0 (⟨Nat.zero_le _, rfl⟩) ⟨rfl, rfl, rfl, rfl, trivial⟩ ⟨[], by decide, rfl⟩ ?_
  rintro k ⟨hk, hrun⟩
  refine Zb <| Za <| gr rfl (Z2 rfl rfl) (Zx (fun h12 => ?_) (fun h12 => ?_))
  · obtain ⟨p, hp⟩ := get_some (show k < l.length by omega)
    refine gA <| Zb <| Zj rfl <| Zu <| Ze <| Zb <| ZC <| Zb <| Za <| gm rfl rfl <| gr rfl (by exact YG (by assumption) Tryz.underlying97 Zf7 rfl rfl (by omega) (by omega)) ?_
    refine gr rfl (Zt Tryz.underlying96 rfl Zf7 rfl (Zai hsl (YT Pt.cells 4 (fun _ => rfl) hp)) rfl) ?_
    refine Zl (ZN Zf7 rfl rfl (fun b7 => ?_))
    refine gas rfl rfl <| Zl (Zy 0 Zf7 rfl rfl rfl rfl rfl rfl (by rfl) ?_)
    refine gA <| Zb <| Za <| gm rfl rfl <| gr rfl (Zt Tryz.underlying96 rfl Zf7 rfl (by exact ZH 0 (off := 0) (k := 4) rfl rfl) rfl) ?_
    simp only [Pt.cells]
    refine Zl (ZD rfl (vf := []) (vc := [.pointer (some ⟨b4, 0, none⟩), .pointer (some ⟨b1, 0, none⟩), .pointer (some ⟨b10, 0, none⟩)]) rfl rfl Tryz.call82 (fun w1 ho => partC_ok s x d cb mb b4 b1 b10 p hg w1 (he.at ho)) ?_)
    rintro _ _ ⟨rfl, rfl⟩
    refine gas rfl rfl <| gA <| Zb <| Za <| gm rfl rfl <| gr rfl (ZX rfl rfl) (Zx (fun h20 => ?_) (fun h20 => ?_))
    · refine gA <| Zj rfl <| Zb <| Za <| gm rfl rfl <| gm rfl rfl <| gas rfl rfl <| gas rfl rfl <| gA <| Zp <| Zw <| Zg <| Zg <| Zw <| Zg <| YI (.inl rfl) Tryz.results84 rfl rfl [] (by decide) ?_
      rw [hrun, Zhp hp, if_pos (by omega)]
      exact ⟨rfl, rfl⟩
    refine gA <| Zk rfl <| Zu <| ZM <| Ze <| Za <| gr rfl (by exact ZQ (b := 1) rfl rfl (by omega)) ?_
    refine gm rfl rfl <| ZU <| Ze ?_
    exact ZZ (k + 1) ⟨⟨by omega, by rw [hrun, Zhp hp, if_neg (by omega)]⟩, by omega⟩ ⟨rfl, rfl, rfl, rfl, trivial⟩ ⟨[], by decide, rfl⟩
  refine gA <| Zb <| Zk rfl <| Z1 <| Zr <| Zr <| ZE <| Ze <| Zb <| Za <| gas rfl rfl <| gas rfl rfl <| gA <| Zp <| YI (.inl rfl) Tryz.results84 rfl rfl [] (by decide) ?_
  rw [hrun, List.drop_eq_nil_of_le (by omega)]
  exact ⟨rfl, rfl⟩
theorem Zhr (s : Org) (hle : OrgLe s) (w0 : World) (hS : OrgIn s w0 []) : Sp Tryz.prog 35 [s.val] w0 [] (RV (.tuple #[(Y1 s).1.val, .int .i64 (Y1 s).2])) := by
  refine ZA Tryz.func35 rfl Tryz.ntmps35 rfl (Own.refl _) ?_
  simp only [ZT]
  refine Zb <| Za <| Zl (Yc rfl rfl rfl (fun b1 => ?_))
  refine Zl (ZN XI rfl rfl (fun b2 => ?_))
  refine gas rfl rfl <| gA <| Zb <| Zb <| Za <| gr rfl (Zd rfl (Ww _)) <| gr rfl (Zh Tryz.underlying40 rfl rfl (by exact Zo 1 rfl rfl)) ?_
  refine gr rfl (ZF Tryz.underlying40 rfl) <| gr rfl (YW rfl rfl) (Zx (fun h20 => ?_) (fun h20 => ?_))
  · refine gm rfl rfl <| Zs rfl rfl rfl <| Zs rfl rfl rfl <| Zs rfl rfl rfl <| Zs rfl rfl rfl <| gr rfl (ZB rfl rfl) <| gm rfl rfl <| Zs rfl rfl rfl <| Zs rfl rfl rfl <| Zs rfl rfl rfl <| Zs rfl rfl rfl <| gr rfl (ZB rfl rfl) <| gm rfl rfl <| Zs rfl rfl rfl <| Zs rfl rfl rfl <| Zs rfl rfl rfl <| Zs rfl rfl rfl <| gr rfl (ZB rfl rfl) <| gA <| Zj rfl <| Zb <| Za <| gr rfl (ZJ rfl (fun _ => Zei)) ?_
    refine Zl (Zy 0 XI rfl rfl rfl rfl rfl rfl (by rfl) ?_)
    refine gas rfl rfl <| gA <| Zp <| Zg <| YJ (.inl rfl) Tryz.results35 (YL Tryz.underlying69 rfl XI rfl (by rfl) (ZH 0 (off := 0) (k := 3) rfl rfl)) (Xh rfl) [] (by decide) ?_
    refine ⟨?_, rfl⟩
    have he : Y1 s = (⟨0, 0, 0⟩, 3) := by
      unfold Y1; rw [if_pos (by unfold W5; simp; omega)]
    rw [he]
    rfl
  refine gm rfl rfl <| Zi rfl rfl <| Zn rfl (Zd rfl (Zdd _)) <| Zi rfl rfl (Zn rfl (Zh Tryz.underlying41 rfl rfl (by exact Zo 1 rfl rfl)) ?_)
  refine Zi rfl rfl <| Zn rfl (ZF Tryz.underlying41 rfl) <| Zi rfl rfl (Zn rfl (YW rfl rfl) (Zx (fun h25 => ?_) (fun h25 => ?_)))
  · refine gr rfl (Zq rfl rfl) <| gm rfl rfl <| Zs rfl rfl rfl <| Zs rfl rfl rfl <| Zs rfl rfl rfl <| Zs rfl rfl rfl <| gr rfl (ZB rfl rfl) <| gm rfl rfl <| Zs rfl rfl rfl <| Zs rfl rfl rfl <| Zs rfl rfl rfl <| Zs rfl rfl rfl <| gr rfl (ZB rfl rfl) <| gA <| Zj rfl <| Zb <| Za <| gr rfl (ZJ rfl (fun _ => Zei)) ?_
    refine Zl (Zy 0 XI rfl rfl rfl rfl rfl rfl (by rfl) ?_)
    refine gas rfl rfl <| gA <| Zp <| Zg <| YJ (.inl rfl) Tryz.results35 (YL Tryz.underlying69 rfl XI rfl (by rfl) (ZH 0 (off := 0) (k := 3) rfl rfl)) (Xh rfl) [] (by decide) ?_
    refine ⟨?_, rfl⟩
    have he : Y1 s = (⟨0, 0, 0⟩, 3) := by
      unfold Y1; rw [if_pos (by unfold W5; simp; omega)]
    rw [he]
    rfl
  refine gr rfl (Zq rfl rfl) <| gm rfl rfl <| Zi rfl rfl <| Zn rfl (Zd rfl (Vn _)) <| Zi rfl rfl (Zn rfl (Zh Tryz.underlying42 rfl rfl (by exact Zo 1 rfl rfl)) ?_)
  refine Zi rfl rfl <| Zn rfl (ZF Tryz.underlying42 rfl) <| Zi rfl rfl (Zn rfl (YW rfl rfl) (Zx (fun h31 => ?_) (fun h31 => ?_)))
  · refine gr rfl (Zq rfl rfl) <| gm rfl rfl <| Zs rfl rfl rfl <| Zs rfl rfl rfl <| Zs rfl rfl rfl <| Zs rfl rfl rfl <| gr rfl (ZB rfl rfl) <| gA <| Zj rfl <| Zb <| Za <| gr rfl (ZJ rfl (fun _ => Zei)) ?_
    refine Zl (Zy 0 XI rfl rfl rfl rfl rfl rfl (by rfl) ?_)
    refine gas rfl rfl <| gA <| Zp <| Zg <| YJ (.inl rfl) Tryz.results35 (YL Tryz.underlying69 rfl XI rfl (by rfl) (ZH 0 (off := 0) (k := 3) rfl rfl)) (Xh rfl) [] (by decide) ?_
    refine ⟨?_, rfl⟩
    have he : Y1 s = (⟨0, 0, 0⟩, 3) := by
      unfold Y1; rw [if_pos (by unfold W5; simp; omega)]
    rw [he]
    rfl
  refine gr rfl (Zq rfl rfl) <| gm rfl rfl <| Zi rfl rfl <| Zn rfl (Zd rfl (JZ _)) <| Zi rfl rfl (Zn rfl (Zh Tryz.underlying43 rfl rfl (by exact Zo 1 rfl rfl)) ?_)
  refine Zi rfl rfl <| Zn rfl (ZF Tryz.underlying43 rfl) <| Zi rfl rfl (Zn rfl (YW rfl rfl) (Zx (fun h37 => ?_) (fun h37 => ?_)))
  · refine gr rfl (Zq rfl rfl) <| gA <| Zj rfl <| Zb <| Za <| gr rfl (ZJ rfl (fun _ => Zei)) ?_
    refine Zl (Zy 0 XI rfl rfl rfl rfl rfl rfl (by rfl) ?_)
    refine gas rfl rfl <| gA <| Zp <| Zg <| YJ (.inl rfl) Tryz.results35 (YL Tryz.underlying69 rfl XI rfl (by rfl) (ZH 0 (off := 0) (k := 3) rfl rfl)) (Xh rfl) [] (by decide) ?_
    refine ⟨?_, rfl⟩
    have he : Y1 s = (⟨0, 0, 0⟩, 3) := by
      unfold Y1; rw [if_pos (by unfold W5; simp; omega)]
    rw [he]
    rfl
  refine gr rfl (Zq rfl rfl) <| gA <| Zk rfl <| Zu <| Ze <| Zb ?_
  have hlong : W5 s = false := by
    unfold W5; simp; omega
  have hln : s.ds.length ≤ 6 ∧ s.rs.length ≤ 40 ∧ s.ss.length ≤ 80 ∧ s.cs.length ≤ 24 := by omega
  refine Za <| gr rfl (Zt Tryz.underlying45 rfl VM rfl (by exact ZH 1 (off := 0) (k := 4) rfl rfl) rfl) ?_
  refine Zl (Zi0 rfl (fun b41 => ?_))
  refine gr rfl (ZJ rfl (fun _ => Zla _ _ _ _ _ _ _ _ _ _ _ _ _)) ?_
  refine Zl (Yc rfl rfl rfl (fun b43 => ?_))
  refine Zl (ZN ty_148 rfl rfl (fun b4 => ?_))
  refine Zl (Z7 0 ty_148 rfl rfl rfl rfl rfl (by rfl) (by rfl) ?_)
  refine gA <| Zb <| Zb <| Za <| gr rfl (Zd rfl (Ww _)) <| gr rfl (Zh Tryz.underlying40 rfl rfl (by exact Zo 4 rfl rfl)) ?_
  refine gr rfl (Zh Tryz.underlying148 rfl rfl (by exact Zo 0 rfl rfl)) ?_
  refine gr rfl (XG (fs := [.tmp 47]) (cs := []) rfl rfl) <| Zl (Yf [1, 2] [0, 3, 4] rfl (vf := []) (vc := []) rfl rfl Tryz.call77 (by decide) rfl (fun w how hc => Znr s b43 b41 [] s.ds s.da s.dc (hle.d) hle.dn w hc (hS.d.atS how (by decide) (Zlb (Zci how 1 rfl rfl) (Zci how 2 rfl rfl)))) ?_)
  rintro _ _ ⟨rfl, rfl⟩
  obtain ⟨rD, hrD⟩ : ∃ r, YK dvE dvK [] s.ds 0 = r := ⟨_, rfl⟩
  rw [hrD]
  refine gm rfl rfl <| gr rfl (Zv rfl rfl) <| gr rfl (Zv rfl rfl) <| gas rfl rfl <| gas rfl rfl <| gA <| Zb <| Za <| gm rfl rfl <| gr rfl (ZX rfl rfl) (Zx (fun h53 => ?_) (fun h53 => ?_))
  · refine gA <| Zj rfl <| Zb <| Za <| gm rfl rfl <| gr rfl (ZJ rfl (fun _ => J1 _ _)) ?_
    refine gm rfl rfl <| Zl (Zy 3 XI rfl rfl rfl rfl rfl rfl (by rfl) ?_)
    refine gas rfl rfl <| gA <| Zp <| Zg <| YJ (.inl rfl) Tryz.results35 (YL Tryz.underlying69 rfl XI rfl (by rfl) (ZH 3 (off := 0) (k := 3) rfl rfl)) (Xh rfl) [] (by decide) ?_
    refine ⟨?_, rfl⟩
    have he : Y1 s = (⟨1, rD.1.1, 0⟩, rD.1.2) := by
      unfold Y1; rw [if_neg (by rw [hlong]; decide), hrD, if_pos h53]
    rw [he]
    rfl
  refine gA <| Zk rfl <| Zu <| Ze <| Zb <| Zb <| Za <| gr rfl (Zd rfl (Zdd _)) <| gr rfl (Zh Tryz.underlying41 rfl rfl (by exact Zo 4 rfl rfl)) ?_
  refine gr rfl (Zh Tryz.underlying148 rfl rfl (by exact Zo 2 rfl rfl)) ?_
  refine gr rfl (XG (fs := [.tmp 60]) (cs := []) rfl rfl) <| Zl (Yf [0, 1] [2, 3, 4] rfl (vf := []) (vc := []) rfl rfl Tryz.call79 (by decide) rfl (fun w how hc => Zns s b43 b41 rD.2 s.rs s.ra s.rc (hle.r) hle.rn w hc (hS.r.atS how (by decide) (Zlb (Zci how 0 rfl rfl) (Zci how 1 rfl rfl)))) ?_)
  rintro _ _ ⟨rfl, rfl⟩
  obtain ⟨rR, hrR⟩ : ∃ r, YK rkE rkK rD.2 s.rs 0 = r := ⟨_, rfl⟩
  rw [hrR]
  refine gm rfl rfl <| gr rfl (Zv rfl rfl) <| gr rfl (Zv rfl rfl) <| gas rfl rfl <| gas rfl rfl <| gA <| Zb <| Za <| gm rfl rfl <| gr rfl (ZX rfl rfl) (Zx (fun h66 => ?_) (fun h66 => ?_))
  · refine gA <| Zj rfl <| Zb <| Za <| gm rfl rfl <| gr rfl (ZJ rfl (fun _ => J1 _ _)) ?_
    refine gm rfl rfl <| Zl (Zy 3 XI rfl rfl rfl rfl rfl rfl (by rfl) ?_)
    refine gas rfl rfl <| gA <| Zp <| Zg <| YJ (.inl rfl) Tryz.results35 (YL Tryz.underlying69 rfl XI rfl (by rfl) (ZH 3 (off := 0) (k := 3) rfl rfl)) (Xh rfl) [] (by decide) ?_
    refine ⟨?_, rfl⟩
    have he : Y1 s = (⟨2, rR.1.1, 0⟩, rR.1.2) := by
      unfold Y1; rw [if_neg (by rw [hlong]; decide), hrD, if_neg (by omega), hrR, if_pos h66]
    rw [he]
    rfl
  refine gA <| Zk rfl <| Zu <| Ze <| Zb <| Zb <| Za <| gr rfl (Zd rfl (Vn _)) <| gr rfl (Zh Tryz.underlying42 rfl rfl (by exact Zo 4 rfl rfl)) ?_
  refine gr rfl (ZF Tryz.underlying42 rfl) <| gm rfl rfl <| gA <| ZC <| Z0 (ι := Nat × List ByteArray) [(1, _), (2, _), (4, _), (71, _), (72, _)] [_, _, _, _] (fun j => j.1 ≤ s.ss.length ∧ Jx s rR.2 s.ss 0 = Jx s j.2 (s.ss.drop j.1) j.1) (fun j Fr0 => ((73, natV j.1) :: Fr0)) (fun j Fr0 => (.obj b41 (JA j.2) :: Fr0)) (fun j => s.ss.length - j.1) (0, rR.2) (⟨Nat.zero_le _, rfl⟩) ⟨rfl, rfl, rfl, rfl, rfl, rfl, trivial⟩ ⟨[1, 0, 2, 3, 4], by decide, rfl⟩ ?_
  rintro ⟨k, K1⟩ ⟨hk, hrun⟩
  simp only at hk hrun ⊢
  refine Zb <| Za <| gr rfl (Z2 rfl rfl) (Zx (fun h74 => ?_) (fun h74 => ?_))
  · obtain ⟨x, hx⟩ := get_some (show k < s.ss.length by omega)
    have hxm := List.mem_of_getElem? hx
    refine gA <| Zb <| Zj rfl <| Zu <| Ze <| Zb <| ZC <| Zb <| Za <| gm rfl rfl <| gr rfl (YG hS.t Tryz.underlying42 Zc3 rfl rfl (by omega) (by omega)) ?_
    refine gr rfl (Zt Tryz.underlying99 rfl Zc3 rfl (Zai hS.t (YT St.cells 5 (fun _ => rfl) hx)) rfl) ?_
    refine Zl (ZN Zc3 rfl rfl (fun b10 => ?_))
    refine gas rfl rfl <| Zl (Zy 0 Zc3 rfl rfl rfl rfl rfl rfl (by rfl) ?_)
    refine gA <| Zb <| Zb <| Za <| gr rfl (Zh Tryz.underlying148 rfl rfl (by exact Zo 3 rfl rfl)) ?_
    refine gr rfl (Zt Tryz.underlying99 rfl Zc3 rfl (by exact ZH 0 (off := 0) (k := 5) rfl rfl) rfl) ?_
    simp only [St.cells]
    refine Zl (Yf [2, 1] [0, 3, 4, 5] rfl (vf := []) (vc := []) rfl rfl Tryz.call81 (by decide) rfl (fun w how hc => stop_ok s b43 b41 K1 x (hle.tn x hxm) hln.1 w hc) ?_)
    rintro _ _ ⟨rfl, rfl⟩
    refine gas rfl rfl <| gA <| Zb <| Za <| gm rfl rfl <| gr rfl (ZX rfl rfl) (Zx (fun h82 => ?_) (fun h82 => ?_))
    · refine gA <| Zj rfl <| Zb <| Za <| gm rfl rfl <| gr rfl (ZJ rfl (fun _ => J1 _ _)) ?_
      refine gm rfl rfl <| Zl (Zy 4 XI rfl rfl rfl rfl rfl rfl (by rfl) ?_)
      refine gas rfl rfl <| gA <| Zp <| Zg <| Zw <| Zg <| Zg <| Zw <| Zg <| YJ (.inl rfl) Tryz.results35 (YL Tryz.underlying69 rfl XI rfl (by rfl) (ZH 4 (off := 0) (k := 3) rfl rfl)) (Xh rfl) [] (by decide) ?_
      refine ⟨?_, rfl⟩
      have he : Y1 s = (⟨3, k, 0⟩, stE s.ds.length K1 x) := by
        unfold Y1; rw [if_neg (by rw [hlong]; decide), hrD, if_neg (by omega), hrR, if_neg (by omega), hrun, Zdg hx, if_pos (show stE s.ds.length K1 x ≠ 0 by omega), if_pos (show stE s.ds.length K1 x ≠ 0 by omega)]
      rw [he]
      rfl
    refine gA <| Zk rfl <| Zu <| Ze <| Zb ?_
    obtain ⟨hx0, hx1⟩ := Zmo (show stE s.ds.length K1 x = 0 by omega)
    obtain ⟨d, hdx⟩ := get_some (show x.div.toNat < s.ds.length by omega)
    have hxd := getD_some (d := default) hdx
    have hg : PGood s x d := by
      obtain ⟨K2, h2⟩ := Zhq (show (YK dvE dvK [] s.ds 0).1.2 = 0 by rw [hrD]; omega) d (List.mem_of_getElem? hdx)
      have h3 := dvBad_no (dvE_ok h2)
      refine ⟨hln.2.1, by omega, by omega, fun r hr => ?_, hx0, hdx⟩
      obtain ⟨K3, h4⟩ := Zhq (show (YK rkE rkK rD.2 s.rs 0).1.2 = 0 by rw [hrR]; omega) r hr
      have h5 := rkBad_no (rkE_ok h4)
      omega
    refine Za <| gr rfl (XG (fs := []) (cs := [.tmp 4, .tmp 1, .tmp 10]) rfl rfl) <| gas rfl rfl <| gA <| Zb <| Za <| gr rfl (Zd rfl (Zhl _)) <| gr rfl (Zh Tryz.underlying97 rfl rfl (by exact Zo 2 rfl rfl)) ?_
    refine gm rfl rfl <| Zl (ZD rfl (vf := []) (vc := []) rfl rfl Tryz.call84 (fun w how => Znu s x d b43 b41 b4 b1 b10 x.ps x.pa x.pc (hle.p x hxm) hg w ⟨Zo 3 rfl rfl w how, how.blkCells 5 rfl, how.blkCells 2 rfl, how.blkCells 0 rfl, hS.d.at how, hS.r.at how⟩ ((hS.p x hxm).at how)) ?_)
    rintro _ _ ⟨rfl, rfl⟩
    have hrl := Zmn (s := s) (d := d) x.ps 0
    obtain ⟨rP, hrP⟩ : ∃ r, Jj s d x.ps 0 = r := ⟨_, rfl⟩
    rw [hrP]
    rw [hrP] at hrl
    have hpl := hle.p x hxm
    refine gm rfl rfl <| gr rfl (Zv rfl rfl) <| gr rfl (Zv rfl rfl) <| gas rfl rfl <| gas rfl rfl <| gA <| Zb <| Za <| gm rfl rfl <| gr rfl (ZX rfl rfl) (Zx (fun h95 => ?_) (fun h95 => ?_))
    · refine gA <| Zj rfl <| Zb <| Za <| gm rfl rfl <| gm rfl rfl <| gr rfl (by exact ZQ (b := 1) rfl rfl (by omega)) ?_
      refine gr rfl (ZJ rfl (fun _ => Zjg _ _ _)) ?_
      refine gm rfl rfl <| Zl (Zy 4 XI rfl rfl rfl rfl rfl rfl (by rfl) ?_)
      refine gas rfl rfl <| gA <| Zp <| Zw <| Zg <| Zg <| Zw <| Zg <| YJ (.inl rfl) Tryz.results35 (YL Tryz.underlying69 rfl XI rfl (by rfl) (ZH 4 (off := 0) (k := 3) rfl rfl)) (Xh rfl) [] (by decide) ?_
      refine ⟨?_, rfl⟩
      have he : Y1 s = (⟨3, k, rP.1 + 1⟩, rP.2) := by
        unfold Y1; rw [if_neg (by rw [hlong]; decide), hrD, if_neg (by omega), hrR, if_neg (by omega), hrun, Zdg hx, if_neg (show ¬ stE s.ds.length K1 x ≠ 0 by omega), hxd, hrP, if_pos (show rP.2 ≠ 0 by omega), if_pos (show rP.2 ≠ 0 by omega)]
      rw [he]
      rfl
    refine gA <| Zk rfl <| Zu <| ZM <| Ze <| Za <| gr rfl (by exact ZQ (b := 1) rfl rfl (by omega)) ?_
    refine gm rfl rfl <| ZU <| Ze ?_
    exact ZZ ((k + 1, stK s.ds.length K1 x)) ⟨⟨by simp only; omega, by simp only; rw [hrun, Zdg hx, if_neg (by omega), hxd, hrP, if_neg (by omega)]⟩, by simp only; omega⟩ ⟨rfl, rfl, rfl, rfl, rfl, rfl, trivial⟩ ⟨[1, 0, 3, 4, 5], by decide, rfl⟩
  refine gA <| Zb <| Zk rfl <| Z1 <| Zr <| Zr <| ZE <| Ze <| Zb <| Zb <| Za <| gr rfl (Zd rfl (JZ _)) <| gr rfl (Zh Tryz.underlying43 rfl rfl (by exact Zo 4 rfl rfl)) ?_
  refine gr rfl (Zh Tryz.underlying148 rfl rfl (by exact Zo 2 rfl rfl)) ?_
  refine gr rfl (XG (fs := [.tmp 105]) (cs := []) rfl rfl) <| Zl (Yf [1, 0] [2, 3, 4] rfl (vf := []) (vc := []) rfl rfl Tryz.call85 (by decide) rfl (fun w how hc => Znt s b43 b41 K1 s.cs s.ca s.cc (hle.c) hle.cn hln.1 w hc (hS.c.atS how (by decide) (Zlb (Zci how 1 rfl rfl) (Zci how 0 rfl rfl)))) ?_)
  rintro _ _ ⟨rfl, rfl⟩
  obtain ⟨rC, hrC⟩ : ∃ r, YK (cpE s.ds.length) cpK K1 s.cs 0 = r := ⟨_, rfl⟩
  rw [hrC]
  refine gm rfl rfl <| gr rfl (Zv rfl rfl) <| gr rfl (Zv rfl rfl) <| gas rfl rfl <| gas rfl rfl <| gA <| Zb <| Za <| gm rfl rfl <| gr rfl (ZX rfl rfl) (Zx (fun h111 => ?_) (fun h111 => ?_))
  · refine gA <| Zj rfl <| Zb <| Za <| gm rfl rfl <| gr rfl (ZJ rfl (fun _ => J1 _ _)) ?_
    refine gm rfl rfl <| Zl (Zy 3 XI rfl rfl rfl rfl rfl rfl (by rfl) ?_)
    refine gas rfl rfl <| gA <| Zp <| Zg <| YJ (.inl rfl) Tryz.results35 (YL Tryz.underlying69 rfl XI rfl (by rfl) (ZH 3 (off := 0) (k := 3) rfl rfl)) (Xh rfl) [] (by decide) ?_
    refine ⟨?_, rfl⟩
    have he : Y1 s = (⟨4, rC.1.1, 0⟩, rC.1.2) := by
      unfold Y1; rw [if_neg (by rw [hlong]; decide), hrD, if_neg (by omega), hrR, if_neg (by omega), hrun, List.drop_eq_nil_of_le (show s.ss.length ≤ k by omega), show Jx s K1 [] k = ((0, 0, 0), K1) from rfl, if_neg (show ¬ (0 : Int) ≠ 0 by decide), hrC, if_pos h111]
    rw [he]
    rfl
  refine gA <| Zk rfl <| Zu <| Ze <| Zb <| Za <| gr rfl (ZJ rfl (fun _ => Zei)) ?_
  refine Zl (Zy 3 XI rfl rfl rfl rfl rfl rfl (by rfl) ?_)
  refine gas rfl rfl <| gA <| Zp <| YJ (.inl rfl) Tryz.results35 (YL Tryz.underlying69 rfl XI rfl (by rfl) (ZH 3 (off := 0) (k := 3) rfl rfl)) (Xh rfl) [] (by decide) ?_
  refine ⟨?_, rfl⟩
  have he : Y1 s = (⟨0, 0, 0⟩, 0) := by
    unfold Y1; rw [if_neg (by rw [hlong]; decide), hrD, if_neg (by omega), hrR, if_neg (by omega), hrun, List.drop_eq_nil_of_le (show s.ss.length ≤ k by omega), show Jx s K1 [] k = ((0, 0, 0), K1) from rfl, if_neg (show ¬ (0 : Int) ≠ 0 by decide), hrC, if_neg (by omega)]
  rw [he]
  rfl
namespace Sx
end Sx
open Sx
namespace Sx
theorem get_z {zs : List Int} {k : Nat} {z : Int} (h : zs[k]? = some z) : (zs.map WR)[k]? = some (WR z) := by rw [List.getElem?_map, h]; rfl
theorem Zes {l : List Int} {lo hi bad z : Int} {k : Nat} (hz : l[k]? = some z) (h : z < lo ∨ hi < z) : Xq l lo hi bad k = bad := by
  unfold Xq; rw [getD_some hz, if_pos h]
theorem Zhx {l : List Int} {lo hi bad z y : Int} {k : Nat} (hz : l[k]? = some z) (hy : l[k - 1]? = some y) (h1 : lo ≤ z) (h2 : z ≤ hi) (hk : 0 < k) (h : z ≤ y) : Xq l lo hi bad k = 8 := by
  unfold Xq; rw [getD_some hz, getD_some hy, if_neg (by omega), if_pos ⟨hk, h⟩]
theorem Zgd {l : List Int} {lo hi bad z : Int} {k : Nat} (hz : l[k]? = some z) (h1 : lo ≤ z) (h2 : z ≤ hi) (h : 0 < k → l.getD (k - 1) 0 < z) : Xq l lo hi bad k = 0 := by
  unfold Xq; rw [getD_some hz, if_neg (by omega), if_neg (by rintro ⟨h3, h4⟩; have := h h3; omega)]
end Sx
open Sx
theorem Zc4 (xs ys : List Int) (a b : Option Addr) (ca cb : Nat) (hxl : xs.length ≤ 140737488355328) (w0 : World) (hx : OldSl w0 [] a xs.length 1 (xs.map WR)) (hy : OldSl w0 [] b ys.length 1 (ys.map WR)) : Sp Tryz.prog 74 [.slice a xs.length ca, .slice b ys.length cb] w0 [] (RV (.bool (decide (xs = ys)))) := by
  refine ZA Tryz.func74 rfl Tryz.ntmps74 rfl (Own.refl _) ?_
  simp only [ZT]
  refine Zb <| Za <| gas rfl rfl <| gA <| Zb <| Zb <| Za <| gm rfl rfl <| gr rfl (ZF Tryz.underlying24 rfl) <| gm rfl rfl <| gr rfl (ZF Tryz.underlying24 rfl) <| gr rfl (ZX rfl rfl) (Zx (fun h10 => ?_) (fun h10 => ?_))
  · refine gA <| Zj rfl <| Zb <| Za <| gas rfl rfl <| gA <| Zp <| Zg <| Zz (.inl rfl) Tryz.results74 rfl [] (by decide) ?_
    refine ⟨congrArg Value.bool (Eq.symm ?_), rfl⟩
    exact decide_eq_false (fun e => by subst e; omega)
  refine gA <| Zk rfl <| Zu <| Ze <| Zb <| Zb <| Za <| gas rfl rfl <| gA <| ZC <| Z0 (ι := Nat) [(0, _), (1, _)] [] (fun k => k ≤ xs.length ∧ xs.take k = ys.take k) (fun k Fr0 => ((5, natV k) :: Fr0)) (fun k Fr0 => Fr0) (fun k => xs.length - k) 0 (⟨Nat.zero_le _, rfl⟩) ⟨rfl, rfl, rfl, trivial⟩ ⟨[], by decide, rfl⟩ ?_
  rintro k ⟨hk, htk⟩
  refine Zb <| Zb <| Za <| gm rfl rfl <| gm rfl rfl <| gr rfl (ZF Tryz.underlying24 rfl) <| gr rfl (Z2 rfl rfl) (Zx (fun h14 => ?_) (fun h14 => ?_))
  · obtain ⟨u, hu⟩ := get_some (show k < xs.length by omega)
    obtain ⟨v, hv⟩ := get_some (show k < ys.length by omega)
    refine gA <| Zj rfl <| Zu <| Ze <| Zb <| ZC <| Zb <| ZP [] true 8 rfl <| Zc 0 rfl rfl ⟨[], by decide, rfl⟩ (Zf (Zm rfl)) ?_
    refine Zc 1 rfl rfl ⟨[], by decide, rfl⟩ (Zf (Zm rfl)) ?_
    refine Zc 2 rfl rfl ⟨[], by decide, rfl⟩ (Zf (Z8 hx Tryz.underlying24 Xu rfl rfl (by omega) (by omega))) ?_
    refine Zc 3 rfl rfl ⟨[], by decide, rfl⟩ (Zf (Zh Tryz.underlying3 rfl rfl (Xb hx (get_z hu)))) ?_
    refine Zc 4 rfl rfl ⟨[], by decide, rfl⟩ (Zf (Zm rfl)) ?_
    refine Zc 5 rfl rfl ⟨[], by decide, rfl⟩ (Zf (Zm rfl)) ?_
    refine Zc 6 rfl rfl ⟨[], by decide, rfl⟩ (Zf (Z8 hy Tryz.underlying24 Xu rfl rfl (by omega) (by omega))) ?_
    refine Zc 7 rfl rfl ⟨[], by decide, rfl⟩ (Zf (Zh Tryz.underlying3 rfl rfl (Xb hy (get_z hv)))) ?_
    refine Zc 8 rfl rfl ⟨[], by decide, rfl⟩ (Zf (ZX rfl rfl)) (Zx (fun h25 => ?_) (fun h25 => ?_))
    · refine ZS (.inr ⟨[], by decide, rfl⟩) ?_
      refine Ze <| Zj rfl <| Zb <| Za <| gas rfl rfl <| gA <| Zp <| Zw <| Zg <| Zg <| Zw <| Zg <| Zz (.inl rfl) Tryz.results74 rfl [] (by decide) ?_
      refine ⟨congrArg Value.bool (Eq.symm ?_), rfl⟩
      exact decide_eq_false (fun e => by subst e; rw [hu] at hv; cases hv; omega)
    refine ZS (.inr ⟨[], by decide, rfl⟩) ?_
    refine Ze <| Zk rfl <| Zu <| ZM <| Ze <| Za <| gm rfl rfl <| gr rfl (by exact ZQ (b := 1) rfl rfl (by omega)) ?_
    refine gas rfl rfl <| ZU <| Ze ?_
    exact ZZ (k + 1) ⟨⟨by omega, by rw [take_at hu, take_at hv, htk, show u = v by omega]⟩, by omega⟩ ⟨rfl, rfl, rfl, trivial⟩ ⟨[], by decide, rfl⟩
  refine gA <| Zk rfl <| Z1 <| Zr <| Zr <| ZE <| Ze <| Zb <| Za <| gas rfl rfl <| gA <| Zp <| Zz (.inl rfl) Tryz.results74 rfl [] (by decide) ?_
  refine ⟨congrArg Value.bool (Eq.symm ?_), rfl⟩
  rw [List.take_of_length_le (by omega), List.take_of_length_le (by omega)] at htk
  exact decide_eq_true htk
theorem Zmp (w0 : World) : Sp Tryz.prog 13 [] w0 [] (fun v L => ∃ b0 b6 b11 b14 b18 b22 b24 b26, v = (XU b6 b11 b14 b18 b22 b24 b26).val ∧ L = [.blk b0 (XU b6 b11 b14 b18 b22 b24 b26).cells 45, .row 113 6 (some b26) 1 1 (exC1.flatMap Cp.cells), .row 99 5 (some b24) 3 3 ((exSs b14 b18 b22).flatMap St.cells), .row 96 4 (some b22) 1 1 (exP3.flatMap Pt.cells), .row 96 4 (some b18) 1 1 (exP2.flatMap Pt.cells), .row 96 4 (some b14) 1 1 (exP1.flatMap Pt.cells), .row 111 6 (some b11) 2 2 (exRs.flatMap Rk.cells), .row 109 3 (some b6) 1 1 (exDs.flatMap Dv.cells)]) := by
  refine ZA Tryz.func13 rfl Tryz.ntmps13 rfl (Own.refl _) ?_
  simp only [ZT]
  refine Zb <| Za <| Zl (ZN VM rfl rfl (fun b0 => ?_))
  refine gA <| Zb <| Za <| gr rfl (ZJ rfl (fun _ => Zch _ _)) ?_
  refine gr rfl (ZJ rfl (fun _ => Zch _ _)) ?_
  refine Zl (ZN VN rfl rfl (fun b1 => ?_))
  refine Zl (ZN VN rfl rfl (fun b2 => ?_))
  refine Zl (Zy 1 VN rfl rfl rfl rfl rfl rfl (by rfl) ?_)
  refine Zl (Zy 0 VN rfl rfl rfl rfl rfl rfl (by rfl) ?_)
  refine gA <| Zb <| Za <| gr rfl (ZJ rfl (fun _ => Zhm _ _ _)) ?_
  refine Zl (ZK (sz := 3) rfl rfl (fun _ => Znj _ _ _) rfl rfl (fun b6 => ?_))
  refine gr rfl (Zt Tryz.underlying94 rfl VN rfl (by exact ZH 2 (off := 0) (k := 2) rfl rfl) rfl) ?_
  refine gr rfl (ZJ rfl (fun _ => VP _ _ _ _ _ _)) ?_
  refine gr rfl (Zt Tryz.underlying94 rfl VN rfl (by exact ZH 2 (off := 0) (k := 2) rfl rfl) rfl) ?_
  refine gr rfl (ZJ rfl (fun _ => VP _ _ _ _ _ _)) ?_
  refine Zl (ZK (sz := 6) rfl rfl (fun _ => Zjj _ _ _ _ _ _ _ _ _ _ _ _) rfl rfl (fun b11 => ?_))
  refine gr rfl (Zt Tryz.underlying94 rfl VN rfl (by exact ZH 3 (off := 0) (k := 2) rfl rfl) rfl) ?_
  refine gr rfl (ZJ rfl (fun _ => Zf9 _ _)) ?_
  refine Zl (ZK (sz := 4) rfl rfl (fun _ => J2 _ _ _ _) rfl rfl (fun b14 => ?_))
  refine gr rfl (ZJ rfl (fun _ => Vp _ _ _ _ _ _)) ?_
  refine gr rfl (Zt Tryz.underlying94 rfl VN rfl (by exact ZH 3 (off := 0) (k := 2) rfl rfl) rfl) ?_
  refine gr rfl (ZJ rfl (fun _ => Zji _ _ _)) ?_
  refine Zl (ZK (sz := 4) rfl rfl (fun _ => J2 _ _ _ _) rfl rfl (fun b18 => ?_))
  refine gr rfl (ZJ rfl (fun _ => Vp _ _ _ _ _ _)) ?_
  refine gr rfl (Zt Tryz.underlying94 rfl VN rfl (by exact ZH 5 (off := 0) (k := 2) rfl rfl) rfl) ?_
  refine gr rfl (ZJ rfl (fun _ => Zjh _ _ _)) ?_
  refine Zl (ZK (sz := 4) rfl rfl (fun _ => J2 _ _ _ _) rfl rfl (fun b22 => ?_))
  refine gr rfl (ZJ rfl (fun _ => Vp _ _ _ _ _ _)) ?_
  refine Zl (ZK (sz := 5) rfl rfl (fun _ => Zfq _ _ _ _ _ _ _ _ _ _ _ _ _ _ _ _ _ _ _ _ _) rfl rfl (fun b24 => ?_))
  refine gr rfl (ZJ rfl (fun _ => Zk9 _ _)) ?_
  refine Zl (ZK (sz := 6) rfl rfl (fun _ => Znl _ _ _ _ _ _) rfl rfl (fun b26 => ?_))
  refine gr rfl (ZJ rfl (fun _ => Zfp _ _ _ _ _ _ _ _ _ _ _ _)) ?_
  refine Zl (Zy 9 VM rfl rfl rfl rfl rfl rfl (by rfl) ?_)
  refine gA <| Zp <| Za4 (.inl rfl) Tryz.results13 (YL Tryz.underlying45 rfl VM rfl (by rfl) (ZH 9 (off := 0) (k := 4) rfl rfl)) [9, 0, 1, 2, 3, 4, 5, 6] (by decide) ?_
  exact ⟨b0, b6, b11, b14, b18, b22, b24, b26, rfl, rfl⟩
end Go.Proofs.YthcbcdjkfefnlaaGreatDoor
namespace Go.Proofs.YthcbcdjkfefnlaaGreatDoor
open Go.Gv
open Go.RowKit
theorem eg_65 : Tryz.prog.eqGuardType Tryz.prog.depth 65 = false := by kernel_rfl
theorem eg_32 : Tryz.prog.eqGuardType Tryz.prog.depth 32 = false := by kernel_rfl
theorem eg_33 : Tryz.prog.eqGuardType Tryz.prog.depth 33 = false := by kernel_rfl
namespace Iv
theorem and32 {n : Nat} (h : n < 4294967296) : n &&& 4294967295 = n := by
  have := Nat.and_two_pow_sub_one_eq_mod n 32
  rw [show (2 ^ 32 - 1 : Nat) = 4294967295 from rfl] at this
  rw [this, Nat.mod_eq_of_lt h]
theorem shr32 {n : Nat} (h : n < 4294967296) : n >>> 32 = 0 := by
  rw [Nat.shiftRight_eq_div_pow, Nat.div_eq_of_lt h]
theorem JI {g cap k : Nat} (h : k < cap) : J8 (some ⟨g, 0, none⟩) cap k 1 = some ⟨g, k, none⟩ := by
  unfold J8
  rw [if_neg (by omega)]
  simp [Addr.add]
  omega
theorem Zcj {g cap k : Nat} (h : k < cap) : J8 (rowA (some g)) cap k 1 = some ⟨g, k, none⟩ := JI h
theorem JJ {w : World} {E : TypeId} {sz : Nat} {r : Option Nat} {m cap : Nat} {xs : List Value} (h : HL.holds w (.row E sz r m cap xs)) (hm : 0 < m) : ∃ g, r = some g ∧ m ≤ cap := by
  obtain ⟨_, h2⟩ := h
  cases r with
  | none => obtain ⟨h3, _⟩ := h2; omega
  | some g => obtain ⟨_, _, h3, _⟩ := h2; exact ⟨g, rfl, h3⟩
theorem Zlh (b c : List Nat) (o : Nat) : (b.map u8V).take o ++ c.map u8V ++ (b.map u8V).drop (o + (c.map u8V).length) = (b.take o ++ c ++ b.drop (o + c.length)).map u8V := by simp
end Iv
open Iv
theorem Mul64_ok (n : Nat) (hn : n < 4294967296) (w0 : World) : Sp Tryz.prog 126 [.int .u64 ((1 : Nat) : Int), .int .u64 (n : Int)] w0 [] (RV (.tuple #[.int .u64 ((0 : Nat) : Int), .int .u64 (n : Int)])) := by
  refine ZA Tryz.func126 rfl Tryz.ntmps126 rfl (Own.refl _) ?_
  simp only [ZT]
  refine Zb <| Za <| gas rfl rfl <| gas rfl rfl <| gA <| Zb <| Za <| gm rfl rfl <| gr rfl (Zhf (a := 1) (b := 4294967295) (c := 1) rfl rfl (by omega) (by omega) (rfl)) ?_
  refine gas rfl rfl <| gA <| Zb <| Za <| gm rfl rfl <| gr rfl (Za9 (a := 1) (b := 32) (c := 0) rfl rfl (by omega) (rfl)) ?_
  refine gas rfl rfl <| gA <| Zb <| Za <| gm rfl rfl <| gr rfl (Zhf (a := n) (b := 4294967295) (c := n) rfl rfl (by omega) (by omega) (and32 hn)) ?_
  refine gas rfl rfl <| gA <| Zb <| Za <| gm rfl rfl <| gr rfl (Za9 (a := n) (b := 32) (c := 0) rfl rfl (by omega) (shr32 hn)) ?_
  refine gas rfl rfl <| gA <| Zb <| Za <| gm rfl rfl <| gm rfl rfl <| gr rfl (Za8 (a := 1) (b := n) (c := n) rfl rfl (by simp) (by omega)) ?_
  refine gas rfl rfl <| gA <| Zb <| Za <| gm rfl rfl <| gm rfl rfl <| gr rfl (Za8 (a := 0) (b := n) (c := 0) rfl rfl (by simp) (by omega)) ?_
  refine gm rfl rfl <| gr rfl (Za9 (a := n) (b := 32) (c := 0) rfl rfl (by omega) (shr32 hn)) ?_
  refine gr rfl (Zdc (a := 0) (b := 0) (c := 0) rfl rfl rfl (by omega)) ?_
  refine gas rfl rfl <| gA <| Zb <| Za <| gm rfl rfl <| gr rfl (Zhf (a := 0) (b := 4294967295) (c := 0) rfl rfl (by omega) (by omega) (rfl)) ?_
  refine gas rfl rfl <| gA <| Zb <| Za <| gm rfl rfl <| gr rfl (Za9 (a := 0) (b := 32) (c := 0) rfl rfl (by omega) (rfl)) ?_
  refine gas rfl rfl <| gA <| Zb <| Za <| gm rfl rfl <| gm rfl rfl <| gm rfl rfl <| gr rfl (Za8 (a := 1) (b := 0) (c := 0) rfl rfl (by simp) (by omega)) ?_
  refine gr rfl (Zdc (a := 0) (b := 0) (c := 0) rfl rfl rfl (by omega)) ?_
  refine gas rfl rfl <| gA <| Zb <| Za <| gm rfl rfl <| gm rfl rfl <| gr rfl (Za8 (a := 0) (b := 0) (c := 0) rfl rfl (by simp) (by omega)) ?_
  refine gm rfl rfl <| gr rfl (Zdc (a := 0) (b := 0) (c := 0) rfl rfl rfl (by omega)) ?_
  refine gm rfl rfl <| gr rfl (Za9 (a := 0) (b := 32) (c := 0) rfl rfl (by omega) (rfl)) ?_
  refine gr rfl (Zdc (a := 0) (b := 0) (c := 0) rfl rfl rfl (by omega)) ?_
  refine gas rfl rfl <| gA <| Zb <| Za <| gm rfl rfl <| gm rfl rfl <| gr rfl (Za8 (a := 1) (b := n) (c := n) rfl rfl (by simp) (by omega)) ?_
  refine gas rfl rfl <| gA <| Zp <| YI (.inl rfl) Tryz.results126 rfl rfl [] (by decide) ?_
  exact ⟨rfl, rfl⟩
theorem Mul_ok (n : Nat) (hn : n < 4294967296) (w0 : World) : Sp Tryz.prog 110 [.int .u64 ((1 : Nat) : Int), .int .u64 (n : Int)] w0 [] (RV (.tuple #[.int .u64 ((0 : Nat) : Int), .int .u64 (n : Int)])) := by
  refine ZA Tryz.func110 rfl Tryz.ntmps110 rfl (Own.refl _) ?_
  simp only [ZT]
  refine Zb <| Za <| gas rfl rfl <| gas rfl rfl <| gA <| Zb <| Zk rfl <| Zu <| Ze <| Zb <| Za <| gm rfl rfl <| gm rfl rfl <| Zl (ZD rfl (vf := []) (vc := []) rfl rfl Tryz.call126 (fun w1 ho => Mul64_ok n hn w1) ?_)
  rintro _ _ ⟨rfl, rfl⟩
  refine gm rfl rfl <| gr rfl (Zv rfl rfl) <| gr rfl (Zv rfl rfl) <| gas rfl rfl <| gas rfl rfl <| gA <| Zb <| Za <| gm rfl rfl <| gm rfl rfl <| gas rfl rfl <| gas rfl rfl <| gA <| Zp <| YI (.inl rfl) Tryz.results110 rfl rfl [] (by decide) ?_
  exact ⟨rfl, rfl⟩
theorem Xy (zs : List Nat) (a : Option Addr) (ca : Nat) (w0 : World) (hsl : OldSl w0 [] a zs.length 1 (zs.map u8V)) (hn : zs.length ≤ 140737488355328) : Sp Tryz.prog 39 [.slice a zs.length ca] w0 [] (fun v L => ∃ (r : Option Nat) (cp : Nat), v = .slice (rowA r) zs.length cp ∧ L = [.row 5 1 r zs.length cp (zs.map u8V)]) := by
  refine ZA Tryz.func39 rfl Tryz.ntmps39 rfl (Own.refl _) ?_
  simp only [ZT]
  refine Zb <| Za <| gas rfl rfl <| gA <| Zb <| Zb <| Za <| gm rfl rfl <| gr rfl (Vj eg_65 Tryz.underlying65 rfl rfl) <| Z3 (fun h4 => ?_) (fun h4 => ?_)
  · obtain rfl : a = none := by cases a with
      | none => rfl
      | some ad => cases h4
    obtain rfl : zs = [] := by
      cases zs with
      | nil => rfl
      | cons z zs => have := hsl.isSome (by simp); cases this
    refine gA <| Zj rfl <| Zb <| Y2 5 1 <| Za <| gas rfl rfl <| gA <| Zp <| Zg <| Zz (.inl rfl) Tryz.results39 rfl [0] (by decide) ?_
    exact ⟨none, 0, rfl, rfl⟩
  refine gA <| Zk rfl <| Zu <| Ze <| Zb <| Za <| Zl (ZK (sz := 1) rfl rfl (fun _ => Zjl) rfl rfl (fun b5 => ?_))
  refine gm rfl rfl <| Zl (Vg 0 hsl Tryz.underlying65 Ym rfl (by decide) rfl rfl rfl rfl (Zhe zs) (by omega) (by omega) (fun _ => (by rfl)) (fun r7 c7 => ?_))
  refine gas rfl rfl <| gA <| Zp <| Zz (.inl rfl) Tryz.results39 rfl [0] (by decide) ?_
  exact ⟨r7, c7, by rw [Nat.zero_add], by rw [Nat.zero_add]; rfl⟩
theorem VR (z n : Nat) (a : Option Addr) (ca : Nat) (w0 : World) (hsl : OldSl w0 [] a 1 1 [u8V z]) (hn : n ≤ 1000000) : Sp Tryz.prog 76 [.slice a 1 ca, natV n] w0 [] (fun v L => ∃ (r cp : Nat), v = .slice (some ⟨r, 0, none⟩) n n ∧ L = [.row 5 1 (some r) n cp ((List.replicate n z).map u8V)]) := by
  obtain ⟨ad, rfl⟩ : ∃ ad, a = some ad := by
    have := hsl.isSome (by decide)
    cases a with
    | none => cases this
    | some ad => exact ⟨ad, rfl⟩
  refine ZA Tryz.func76 rfl Tryz.ntmps76 rfl (Own.refl _) ?_
  simp only [ZT]
  refine Zb <| Za <| gas rfl rfl <| gA <| Zb <| Zb <| Za <| gm rfl rfl <| gr rfl (Yt rfl rfl) (Zx (fun h13 => ?_) (fun h13 => ?_))
  · refine gA <| Zj rfl <| Zb <| Za <| Zl (ZK (sz := 1) rfl rfl (fun _ => Zjl) rfl rfl (fun b14 => ?_))
    refine gas rfl rfl <| gA <| Zp <| Zg <| Zz (.inl rfl) Tryz.results76 rfl [0] (by decide) ?_
    obtain rfl : n = 0 := by omega
    exact ⟨b14, 0, rfl, rfl⟩
  refine gA <| Zk rfl <| Zu <| Ze <| Zb <| Zb <| Za <| gm rfl rfl <| gr rfl (Z2 rfl rfl) (Zx (fun h16 => ?_) (fun h16 => ?_))
  · exfalso; omega
  refine gA <| Zk rfl <| Zu <| Ze <| Zb <| Za <| gm rfl rfl <| gr rfl (ZF Tryz.underlying65 rfl) <| gr rfl (YH Tryz.runUnderlying3 Tryz.runUnderlying192 rfl (X5 (n := 1) (by omega))) ?_
  refine gm rfl rfl <| gr rfl (YH Tryz.runUnderlying3 Tryz.runUnderlying192 rfl (X5 (by omega))) ?_
  refine Zl (ZD rfl (vf := []) (vc := []) rfl rfl Tryz.call110 (fun w1 ho => Mul_ok n (by omega) w1) ?_)
  rintro _ _ ⟨rfl, rfl⟩
  refine gm rfl rfl <| gr rfl (Zv rfl rfl) <| gr rfl (Zv rfl rfl) <| gas rfl rfl <| gas rfl rfl <| gA <| Zb <| Zb <| Za <| gm rfl rfl <| gr rfl (YW rfl rfl) (Zx (fun h28 => ?_) (fun h28 => ?_))
  · exfalso; omega
  refine gm rfl rfl <| Zi rfl rfl <| Zn rfl (Zm rfl) <| Zi rfl rfl (Zn rfl (YW rfl rfl) (Zx (fun h31 => ?_) (fun h31 => ?_)))
  · exfalso; omega
  refine gr rfl (Zq rfl rfl) <| gA <| Zk rfl <| Zu <| Ze <| Zb <| Za <| gm rfl rfl <| gr rfl (YH Tryz.runUnderlying192 Tryz.runUnderlying3 rfl (XK (by omega) (by omega))) ?_
  refine gas rfl rfl <| gA <| Zb <| Zb <| Za <| gm rfl rfl <| gr rfl (ZF Tryz.underlying65 rfl) <| gr rfl (Yt rfl rfl) (Zx (fun h38 => ?_) (fun h38 => ?_))
  · exfalso; omega
  refine gA <| Zk rfl <| Zu <| Ze <| Zb <| Za <| gm rfl rfl <| gas rfl rfl <| gA <| Zb <| Zb <| Za <| gm rfl rfl <| gr rfl (YW rfl rfl) (Zx (fun h42 => ?_) (fun h42 => ?_))
  · refine gA <| Zj rfl <| Zb <| Za <| gm rfl rfl <| gr rfl (ZF Tryz.underlying65 rfl) <| gr rfl (by exact Vi (a := 8192) rfl rfl (by omega) (by omega)) ?_
    refine gm rfl rfl <| gr rfl (ZF Tryz.underlying65 rfl) <| gr rfl (by exact XE rfl rfl (by omega)) ?_
    refine gas rfl rfl <| gA <| Zb <| Za <| gm rfl rfl <| gr rfl (Yt rfl rfl) (Zx (fun h50 => ?_) (fun h50 => ?_))
    · exfalso; omega
    refine gA <| Zk rfl <| Zu <| Ze <| Zb <| Za <| gm rfl rfl <| Zl (Zf0 (p := 3) (m := n) Tryz.func111 rfl rfl (by kernel_rfl) (by kernel_rfl) Tryz.underlying65 rfl rfl (by omega) (fun bn cn xs hcn hxl => ?_))
    refine gm rfl rfl <| gm rfl rfl <| gr rfl (Zfz Tryz.underlying65 Ym rfl rfl rfl (by omega) (by omega) (by omega)) ?_
    refine gas rfl rfl <| gA <| Zb <| Za <| gm rfl rfl <| gm rfl rfl <| Zl (XZ 0 0 (cs := [u8V z]) (sLen := 1) Tryz.underlying65 Ym rfl rfl rfl rfl (show 1 = Nat.min 1 n from (Nat.min_eq_left (by omega)).symm) (ad := ad) (fun w ho => (hsl.at ho).cells) (by simp; omega) (by simp [Value.oneCell']) (by rfl) ?_)
    refine gas rfl rfl <| gA <| Zb <| ZC <| Z0 (ι := Nat × List Value) [(7, _), (8, _), (9, _)] [] (fun j => 1 ≤ j.1 ∧ j.1 ≤ n ∧ j.2.length = n ∧ j.2.take j.1 = List.replicate j.1 (u8V z)) (fun j Fr0 => ((10, natV j.1) :: Fr0)) (fun j Fr0 => (.row 5 1 (some bn) n cn j.2 :: Fr0)) (fun j => n - j.1) (1, xs.take 0 ++ [u8V z] ++ xs.drop (0 + [u8V z].length)) (⟨by simp only; omega, by simp only; omega, by simp; omega, by simp⟩) ⟨rfl, rfl, rfl, rfl, trivial⟩ ⟨[0], by decide, rfl⟩ ?_
    rintro ⟨k, ys⟩ ⟨hk1, hkn, hyl, hys⟩
    simp only at hk1 hkn hyl hys ⊢
    refine Zb <| Zb <| Za <| gm rfl rfl <| gm rfl rfl <| gr rfl (Z2 rfl rfl) (Zx (fun h63 => ?_) (fun h63 => ?_))
    · refine gA <| Zj rfl <| Zu <| Ze <| ZC <| Zb <| Za <| gm rfl rfl <| gm rfl rfl <| gr rfl (Zir rfl rfl) <| gas rfl rfl <| gA <| ZP [] true 9 rfl <| Zc 0 rfl rfl ⟨[], by decide, rfl⟩ (Zf (Zm rfl)) ?_
      refine Zc 1 rfl rfl ⟨[], by decide, rfl⟩ (Zf (Zm rfl)) ?_
      refine Zc 2 rfl rfl ⟨[], by decide, rfl⟩ (Zf (Zm rfl)) ?_
      refine Zc 3 rfl rfl ⟨[], by decide, rfl⟩ (Zf (Jc Tryz.underlying65 Ym rfl rfl (by omega) (by omega))) ?_
      refine Zc 4 rfl rfl ⟨[], by decide, rfl⟩ (Zf (Zm rfl)) ?_
      refine Zc 5 rfl rfl ⟨[], by decide, rfl⟩ (Zf (Zm rfl)) ?_
      refine Zc 6 rfl rfl ⟨[], by decide, rfl⟩ (Zf (W4 Tryz.underlying65 Ym rfl rfl (by omega) (by omega))) ?_
      simp only [Int.toNat_natCast]
      rw [JI (show k < n by omega)]
      obtain ⟨c, hc⟩ : ∃ c, c = min (min k (8192 / 1 * 1)) (n - k) := ⟨_, rfl⟩
      have hcs : (ys.drop 0).take c = List.replicate c (u8V z) := by
        have h := congrArg (List.take c) hys
        rw [List.take_take, List.take_replicate, Nat.min_eq_left (by omega)] at h
        exact h
      refine ZG 7 rfl (.inr ⟨[], by decide, rfl⟩) (XZ 0 k (cs := List.replicate c (u8V z)) Tryz.underlying65 Ym rfl rfl rfl rfl (by rw [List.length_replicate]; exact hc) (Zg8 0 (a := some bn) rfl hcs) (by rw [List.length_replicate]; omega) (fun u hu => by rw [List.eq_of_mem_replicate hu]; rfl) (by rfl) ?_)
      rw [List.length_replicate]
      refine Zc 8 rfl rfl ⟨[], by decide, rfl⟩ (Zf (by exact ZQ rfl rfl (by omega))) ?_
      refine Zc 9 rfl rfl ⟨[], by decide, rfl⟩ (Zf (ZV rfl)) ?_
      refine ZS (.inr ⟨[], by decide, rfl⟩) ?_
      refine ZM <| Ze ?_
      exact ZZ ((k + c, ys.take k ++ List.replicate c (u8V z) ++ ys.drop (k + c))) ⟨⟨by simp only; omega, by simp only; omega, by simp; omega, by simp only; rw [hys, List.replicate_append_replicate, List.take_append_of_le_length (by simp), List.take_of_length_le (by simp)]⟩, by simp only; omega⟩ ⟨rfl, rfl, rfl, rfl, trivial⟩ ⟨[0], by decide, rfl⟩
    refine gA <| Zk rfl <| Z1 <| Zr <| Zr <| ZE <| Ze <| Zb <| Za <| gm rfl rfl <| gas rfl rfl <| gA <| Zp <| Zz (.inl rfl) Tryz.results76 rfl [0] (by decide) ?_
    have hye : ys = List.replicate n (u8V z) := by
      rw [show k = n by omega, List.take_of_length_le (by omega)] at hys
      exact hys
    exact ⟨bn, cn, rfl, by rw [hye, List.map_replicate]; rfl⟩
  refine gA <| Zk rfl <| Zu <| Ze <| Zb <| Za <| gm rfl rfl <| Zl (Zf0 (p := 3) (m := n) Tryz.func111 rfl rfl (by kernel_rfl) (by kernel_rfl) Tryz.underlying65 rfl rfl (by omega) (fun bn cn xs hcn hxl => ?_))
  refine gm rfl rfl <| gm rfl rfl <| gr rfl (Zfz Tryz.underlying65 Ym rfl rfl rfl (by omega) (by omega) (by omega)) ?_
  refine gas rfl rfl <| gA <| Zb <| Za <| gm rfl rfl <| gm rfl rfl <| Zl (XZ 0 0 (cs := [u8V z]) (sLen := 1) Tryz.underlying65 Ym rfl rfl rfl rfl (show 1 = Nat.min 1 n from (Nat.min_eq_left (by omega)).symm) (ad := ad) (fun w ho => (hsl.at ho).cells) (by simp; omega) (by simp [Value.oneCell']) (by rfl) ?_)
  refine gas rfl rfl <| gA <| Zb <| ZC <| Z0 (ι := Nat × List Value) [(7, _), (8, _), (9, _)] [] (fun j => 1 ≤ j.1 ∧ j.1 ≤ n ∧ j.2.length = n ∧ j.2.take j.1 = List.replicate j.1 (u8V z)) (fun j Fr0 => ((10, natV j.1) :: Fr0)) (fun j Fr0 => (.row 5 1 (some bn) n cn j.2 :: Fr0)) (fun j => n - j.1) (1, xs.take 0 ++ [u8V z] ++ xs.drop (0 + [u8V z].length)) (⟨by simp only; omega, by simp only; omega, by simp; omega, by simp⟩) ⟨rfl, rfl, rfl, rfl, trivial⟩ ⟨[0], by decide, rfl⟩ ?_
  rintro ⟨k, ys⟩ ⟨hk1, hkn, hyl, hys⟩
  simp only at hk1 hkn hyl hys ⊢
  refine Zb <| Zb <| Za <| gm rfl rfl <| gm rfl rfl <| gr rfl (Z2 rfl rfl) (Zx (fun h63 => ?_) (fun h63 => ?_))
  · refine gA <| Zj rfl <| Zu <| Ze <| ZC <| Zb <| Za <| gm rfl rfl <| gm rfl rfl <| gr rfl (Zir rfl rfl) <| gas rfl rfl <| gA <| ZP [] true 9 rfl <| Zc 0 rfl rfl ⟨[], by decide, rfl⟩ (Zf (Zm rfl)) ?_
    refine Zc 1 rfl rfl ⟨[], by decide, rfl⟩ (Zf (Zm rfl)) ?_
    refine Zc 2 rfl rfl ⟨[], by decide, rfl⟩ (Zf (Zm rfl)) ?_
    refine Zc 3 rfl rfl ⟨[], by decide, rfl⟩ (Zf (Jc Tryz.underlying65 Ym rfl rfl (by omega) (by omega))) ?_
    refine Zc 4 rfl rfl ⟨[], by decide, rfl⟩ (Zf (Zm rfl)) ?_
    refine Zc 5 rfl rfl ⟨[], by decide, rfl⟩ (Zf (Zm rfl)) ?_
    refine Zc 6 rfl rfl ⟨[], by decide, rfl⟩ (Zf (W4 Tryz.underlying65 Ym rfl rfl (by omega) (by omega))) ?_
    simp only [Int.toNat_natCast]
    rw [JI (show k < n by omega)]
    obtain ⟨c, hc⟩ : ∃ c, c = min (min k n) (n - k) := ⟨_, rfl⟩
    have hcs : (ys.drop 0).take c = List.replicate c (u8V z) := by
      have h := congrArg (List.take c) hys
      rw [List.take_take, List.take_replicate, Nat.min_eq_left (by omega)] at h
      exact h
    refine ZG 7 rfl (.inr ⟨[], by decide, rfl⟩) (XZ 0 k (cs := List.replicate c (u8V z)) Tryz.underlying65 Ym rfl rfl rfl rfl (by rw [List.length_replicate]; exact hc) (Zg8 0 (a := some bn) rfl hcs) (by rw [List.length_replicate]; omega) (fun u hu => by rw [List.eq_of_mem_replicate hu]; rfl) (by rfl) ?_)
    rw [List.length_replicate]
    refine Zc 8 rfl rfl ⟨[], by decide, rfl⟩ (Zf (by exact ZQ rfl rfl (by omega))) ?_
    refine Zc 9 rfl rfl ⟨[], by decide, rfl⟩ (Zf (ZV rfl)) ?_
    refine ZS (.inr ⟨[], by decide, rfl⟩) ?_
    refine ZM <| Ze ?_
    exact ZZ ((k + c, ys.take k ++ List.replicate c (u8V z) ++ ys.drop (k + c))) ⟨⟨by simp only; omega, by simp only; omega, by simp; omega, by simp only; rw [hys, List.replicate_append_replicate, List.take_append_of_le_length (by simp), List.take_of_length_le (by simp)]⟩, by simp only; omega⟩ ⟨rfl, rfl, rfl, rfl, trivial⟩ ⟨[0], by decide, rfl⟩
  refine gA <| Zk rfl <| Z1 <| Zr <| Zr <| ZE <| Ze <| Zb <| Za <| gm rfl rfl <| gas rfl rfl <| gA <| Zp <| Zz (.inl rfl) Tryz.results76 rfl [0] (by decide) ?_
  have hye : ys = List.replicate n (u8V z) := by
    rw [show k = n by omega, List.take_of_length_le (by omega)] at hys
    exact hys
  exact ⟨bn, cn, rfl, by rw [hye, List.map_replicate]; rfl⟩
namespace Iv
structure Fl where
  b : List Nat
  left : Int
  picks : List Nat
  down : Bool
  pr : Nat
  er : Nat
  st : Nat
  deriving Inhabited
abbrev Fl.cells (f : Fl) (rb : Option Nat) (cb : Nat) (rp : Option Nat) (cp : Nat) : List Value :=
  [.bool true, .slice (rowA rb) f.b.length cb, .int .i64 f.left, .slice (rowA rp) f.picks.length cp, .bool f.down, natV f.pr, natV f.er, natV f.st]
abbrev FlH (bf : Nat) (rb : Option Nat) (cb : Nat) (rp : Option Nat) (cp : Nat) (f : Fl) : List HL :=
  [.blk bf (f.cells rb cb rp cp) 115, .row 5 1 rb f.b.length cb (f.b.map u8V), .row 5 1 rp f.picks.length cp (f.picks.map u8V)]
structure Fl.Ok (f : Fl) : Prop where
  bs : ∀ z ∈ f.b, z < 256
  ps : ∀ z ∈ f.picks, z < 256
  len : f.b.length % 256 = 0
  lo : 1024 ≤ f.b.length
  hi : f.b.length ≤ 16384
  pl : f.picks.length ≤ 256
  pr : f.pr < 4611686018427387904
  er : f.er < 4611686018427387904
  st : f.st < 4611686018427387904
  l0 : -1 ≤ f.left
  l1 : f.left ≤ 9223372036854775807
def Yx (f : Fl) (at_ : Int) (many : Int) : Int := if at_ < 0 then 2 else if at_ ≥ many then 2 else if f.down then 9 else 0
def flFails (f : Fl) : Fl := if f.left = 0 then { f with down := true } else if 0 < f.left then { f with down := false, left := f.left - 1 } else { f with down := false }
def gB (b : List Nat) (k : Nat) : Nat := b.getD k 0
def XF (f : Fl) (k v : Nat) : Fl × Int :=
  if !(flFails { f with pr := f.pr + 1 }).down then ({ flFails { f with pr := f.pr + 1 } with b := f.b.set k (gB f.b k &&& v) }, 0)
  else ({ flFails { f with pr := f.pr + 1 } with b := f.b.set k (gB f.b k &&& (if 0 < f.picks.length then v ||| gB f.picks 0 else v)) }, 9)
def Yp (f : Fl) (at_ : Int) (v : Nat) : Fl × Int := if Yx f at_ f.b.length ≠ 0 then (f, Yx f at_ f.b.length) else XF f at_.toNat v
def orTo (picks : List Nat) (b : List Nat) (o n : Nat) : List Nat := (List.range n).foldl (fun b i => b.set (o + i) (gB b (o + i) ||| gB picks (i % picks.length))) b
def YX (f : Fl) (k : Nat) : Fl × Int :=
  ({ flFails { f with er := f.er + 1 } with b := if !(flFails { f with er := f.er + 1 }).down || decide (f.picks.length = 0) then f.b.take (k * 256) ++ List.replicate 256 255 ++ f.b.drop (k * 256 + 256) else orTo f.picks f.b (k * 256) 256 }, if (flFails { f with er := f.er + 1 }).down then 9 else 0)
def Yh (f : Fl) (at_ : Int) : Fl × Int := if Yx f at_ (f.b.length / 256 : Nat) ≠ 0 then (f, Yx f at_ (f.b.length / 256 : Nat)) else YX f at_.toNat
def flFuse (f : Fl) (n : Int) (ps : List Nat) : Fl × Int := if n < 0 ∨ 256 < ps.length then (f, 2) else if f.down then (f, 9) else ({ f with left := n, picks := ps }, 0)
theorem Zgg (f : Fl) : (flFails f).b = f.b := by
  unfold flFails
  split
  · rfl
  · split <;> rfl
theorem Wy (f : Fl) : (flFails f).picks = f.picks := by
  unfold flFails
  split
  · rfl
  · split <;> rfl
theorem Wk {b : List Nat} {k : Nat} (h : k < b.length) : b[k]? = some (gB b k) := by simp [gB, h]
theorem Xr {b : List Nat} (h : ∀ z ∈ b, z < 256) (k : Nat) : gB b k < 256 := by
  unfold gB
  by_cases hk : k < b.length
  · rw [show b.getD k 0 = b[k] by simp [hk]]; exact h _ (List.getElem_mem _)
  · rw [List.getD_eq_getElem?_getD, List.getElem?_eq_none (by omega)]; decide
theorem Vt (b : List Nat) (k z : Nat) : (b.map u8V).set k (u8V z) = (b.set k z).map u8V := by rw [List.map_set]
end Iv
end Go.Proofs.YthcbcdjkfefnlaaGreatDoor
namespace Go.Proofs.YthcbcdjkfefnlaaGreatDoor
open Go.Gv
open Go.RowKit
open Iv
theorem Zmq (f : Fl) (hf : f.Ok) (bf : Nat) (rb : Option Nat) (cb : Nat) (rp : Option Nat) (cp : Nat) (S : List Nat) (w0 : World) (hown : Own w0 S w0 (FlH bf rb cb rp cp f))  : Sp Tryz.prog 38 [.pointer (some ⟨bf, 0, none⟩)] w0 S (fun v L => v = .bool false ∧ L = FlH bf rb cb rp cp f) := by
  have hbl := hf.hi
  have hbl0 := hf.lo
  refine ZA Tryz.func38 rfl Tryz.ntmps38 rfl hown ?_
  simp only [ZT]
  refine Zb <| Za <| gas rfl rfl <| gA <| Zb <| Za <| gm rfl rfl <| gr rfl (XH eg_32 Tryz.underlying32 rfl rfl) <| gm rfl rfl <| Zi rfl rfl <| Zn rfl (Zm rfl) <| Zi rfl rfl <| Zn rfl (ZI rfl) <| Zi rfl rfl <| Zn rfl (Zd rfl (Zi8 _)) <| Zi rfl rfl (Zn rfl (Zh Tryz.underlying4 rfl rfl (by exact Zo 0 rfl rfl)) ?_)
  refine Zi rfl rfl <| Zn rfl (rd_not rfl) <| gr rfl (Zq rfl rfl) <| gas rfl rfl <| gA <| Zp <| Zz (.inl rfl) Tryz.results38 rfl [0, 1, 2] (by decide) ?_
  exact ⟨rfl, rfl⟩
theorem Zgh (f : Fl) (hf : f.Ok) (bf : Nat) (rb : Option Nat) (cb : Nat) (rp : Option Nat) (cp : Nat) (S : List Nat) (w0 : World) (hown : Own w0 S w0 (FlH bf rb cb rp cp f))  : Sp Tryz.prog 41 [.pointer (some ⟨bf, 0, none⟩)] w0 S (fun v L => v = natV (f.b.length / 256) ∧ L = FlH bf rb cb rp cp f) := by
  have hbl := hf.hi
  have hbl0 := hf.lo
  refine ZA Tryz.func41 rfl Tryz.ntmps41 rfl hown ?_
  simp only [ZT]
  refine Zb <| Za <| gas rfl rfl <| gA <| Zb <| Zb <| Za <| gm rfl rfl <| Zl (Yf [0, 1, 2] [] rfl (vf := []) (vc := []) rfl rfl Tryz.call38 (by decide) rfl (fun w how hc => Zmq f hf bf rb cb rp cp _ w hc) ?_)
  rintro _ _ ⟨rfl, rfl⟩
  refine gA <| Zk rfl <| Zu <| Ze <| Zb <| Za <| gm rfl rfl <| gnc rfl rfl <| gr rfl (Zd rfl (WB _)) <| gr rfl (Zh Tryz.underlying65 rfl rfl (by exact Zo 0 rfl rfl)) ?_
  refine gr rfl (ZF Tryz.underlying65 rfl) <| gr rfl (by exact Vi (b := 256) rfl rfl (by omega) (by omega)) ?_
  refine gas rfl rfl <| gA <| Zp <| Zz (.inl rfl) Tryz.results41 rfl [0, 1, 2] (by decide) ?_
  exact ⟨rfl, rfl⟩
theorem begins_ok (f : Fl) (hf : f.Ok) (bf : Nat) (rb : Option Nat) (cb : Nat) (rp : Option Nat) (cp : Nat) (S : List Nat) (w0 : World) (hown : Own w0 S w0 (FlH bf rb cb rp cp f)) (at_ many : Int) : Sp Tryz.prog 40 [.pointer (some ⟨bf, 0, none⟩), .int .i64 at_, .int .i64 many] w0 S (fun v L => v = .int .i64 (Yx f at_ many) ∧ L = FlH bf rb cb rp cp f) := by
  have hbl := hf.hi
  have hbl0 := hf.lo
  refine ZA Tryz.func40 rfl Tryz.ntmps40 rfl hown ?_
  simp only [ZT]
  refine Zb <| Za <| gas rfl rfl <| gA <| Zb <| ZC <| Zb <| Za <| gm rfl rfl <| Zl (Yf [0, 1, 2] [] rfl (vf := []) (vc := []) rfl rfl Tryz.call38 (by decide) rfl (fun w how hc => Zmq f hf bf rb cb rp cp _ w hc) ?_)
  rintro _ _ ⟨rfl, rfl⟩
  refine gas rfl rfl <| gA <| Zk rfl <| Zb <| Za <| gm rfl rfl <| gr rfl (Z2 rfl rfl) (Zx (fun h12 => ?_) (fun h12 => ?_))
  · refine gm rfl rfl <| Zs rfl rfl rfl <| Zs rfl rfl rfl <| Zs rfl rfl rfl <| gr rfl (ZB rfl rfl) <| gas rfl rfl <| gA <| Zj rfl <| Zb <| Za <| gas rfl rfl <| gA <| Zp <| Zw <| Zg <| Zz (.inl rfl) Tryz.results40 rfl [0, 1, 2] (by decide) ?_
    refine ⟨congrArg (Value.int .i64) ?_, rfl⟩
    unfold Yx
    rw [if_pos h12]
  refine gm rfl rfl <| Zi rfl rfl <| Zn rfl (Zm rfl) <| Zi rfl rfl <| Zn rfl (Zm rfl) <| Zi rfl rfl (Zn rfl (Wh rfl rfl) (Zx (fun h16 => ?_) (fun h16 => ?_)))
  · refine gr rfl (Zq rfl rfl) <| gas rfl rfl <| gA <| Zj rfl <| Zb <| Za <| gas rfl rfl <| gA <| Zp <| Zw <| Zg <| Zz (.inl rfl) Tryz.results40 rfl [0, 1, 2] (by decide) ?_
    refine ⟨congrArg (Value.int .i64) ?_, rfl⟩
    unfold Yx
    rw [if_neg h12, if_pos (by omega)]
  refine gr rfl (Zq rfl rfl) <| gas rfl rfl <| gA <| Zk rfl <| Zb <| Za <| gm rfl rfl <| gnc rfl rfl <| gr rfl (Zd rfl (XJ _)) <| gr rfl (Zh Tryz.underlying4 rfl rfl (by exact Zo 0 rfl rfl)) ?_
  refine gas rfl rfl <| Z3 (fun h18 => ?_) (fun h18 => ?_)
  · refine gA <| Zj rfl <| Zb <| Za <| gas rfl rfl <| gA <| Zp <| Zw <| Zg <| Zz (.inl rfl) Tryz.results40 rfl [0, 1, 2] (by decide) ?_
    refine ⟨congrArg (Value.int .i64) ?_, rfl⟩
    unfold Yx
    rw [if_neg h12, if_neg (by omega), if_pos h18]
  refine gA <| Zk rfl <| Zu <| ZM <| Ze <| Zb <| Za <| gas rfl rfl <| gA <| Zp <| Zz (.inl rfl) Tryz.results40 rfl [0, 1, 2] (by decide) ?_
  refine ⟨congrArg (Value.int .i64) ?_, rfl⟩
  unfold Yx
  rw [if_neg h12, if_neg (by omega), if_neg (by rw [h18]; decide)]
theorem Zjt (f : Fl) (hf : -1 ≤ f.left ∧ f.left ≤ 9223372036854775807) (bf : Nat) (rb : Option Nat) (cb : Nat) (rp : Option Nat) (cp : Nat) (S : List Nat) (w0 : World) (hown : Own w0 S w0 (FlH bf rb cb rp cp f))  : Sp Tryz.prog 42 [.pointer (some ⟨bf, 0, none⟩)] w0 S (fun v L => v = .bool (flFails f).down ∧ L = FlH bf rb cb rp cp (flFails f)) := by
  have hl0 := hf.1
  have hl1 := hf.2
  refine ZA Tryz.func42 rfl Tryz.ntmps42 rfl hown ?_
  simp only [ZT]
  refine Zb <| Za <| gas rfl rfl <| gA <| Zb <| Za <| gm rfl rfl <| gm rfl rfl <| gnc rfl rfl <| gr rfl (Zd rfl (JE _)) <| gr rfl (Zh Tryz.underlying3 rfl rfl (by exact Zo 0 rfl rfl)) ?_
  refine gr rfl (Yt rfl rfl) (Zx (fun h8 => ?_) (fun h8 => ?_))
  · have hff : flFails f = { f with down := true } := by unfold flFails; rw [if_pos h8]
    refine gnc rfl rfl <| gr rfl (Zd rfl (XJ _)) <| Zl (Z7 0 ty_4 rfl rfl rfl rfl rfl (by rfl) (by rfl) ?_)
    refine gA <| Zb <| Zb <| Za <| gm rfl rfl <| gnc rfl rfl <| gr rfl (Zd rfl (JE _)) <| gr rfl (Zh Tryz.underlying3 rfl rfl (by exact Zo 0 rfl rfl)) ?_
    refine gr rfl (YW rfl rfl) (Zx (fun h15 => ?_) (fun h15 => ?_))
    · exfalso; omega
    refine gA <| Zk rfl <| Zu <| Ze <| Zb <| Za <| gm rfl rfl <| gnc rfl rfl <| gr rfl (Zd rfl (XJ _)) <| gr rfl (Zh Tryz.underlying4 rfl rfl (by exact Zo 0 rfl rfl)) ?_
    refine gas rfl rfl <| gA <| Zp <| Zz (.inl rfl) Tryz.results42 rfl [0, 1, 2] (by decide) ?_
    rw [hff]
    exact ⟨rfl, rfl⟩
  refine gnc rfl rfl <| gr rfl (Zd rfl (XJ _)) <| Zl (Z7 0 ty_4 rfl rfl rfl rfl rfl (by rfl) (by rfl) ?_)
  refine gA <| Zb <| Zb <| Za <| gm rfl rfl <| gnc rfl rfl <| gr rfl (Zd rfl (JE _)) <| gr rfl (Zh Tryz.underlying3 rfl rfl (by exact Zo 0 rfl rfl)) ?_
  refine gr rfl (YW rfl rfl) (Zx (fun h15 => ?_) (fun h15 => ?_))
  · refine gA <| Zj rfl <| Za <| gm rfl rfl <| gnc rfl rfl <| gr rfl (Zd rfl (JE _)) <| gr rfl (Zh Tryz.underlying3 rfl rfl (by exact Zo 0 rfl rfl)) ?_
    refine gr rfl (W2 rfl rfl (by omega) (by omega)) ?_
    refine gnc rfl rfl <| gr rfl (Zd rfl (JE _)) <| Zl (Z7 0 Xu rfl rfl rfl rfl rfl (by rfl) (by rfl) ?_)
    refine gA <| Zb <| Za <| gm rfl rfl <| gnc rfl rfl <| gr rfl (Zd rfl (XJ _)) <| gr rfl (Zh Tryz.underlying4 rfl rfl (by exact Zo 0 rfl rfl)) ?_
    refine gas rfl rfl <| gA <| Zp <| Zz (.inl rfl) Tryz.results42 rfl [0, 1, 2] (by decide) ?_
    have hff : flFails f = { f with down := false, left := f.left - 1 } := by unfold flFails; rw [if_neg h8, if_pos h15]
    rw [hff]
    exact ⟨rfl, rfl⟩
  refine gA <| Zk rfl <| Zu <| Ze <| Zb <| Za <| gm rfl rfl <| gnc rfl rfl <| gr rfl (Zd rfl (XJ _)) <| gr rfl (Zh Tryz.underlying4 rfl rfl (by exact Zo 0 rfl rfl)) ?_
  refine gas rfl rfl <| gA <| Zp <| Zz (.inl rfl) Tryz.results42 rfl [0, 1, 2] (by decide) ?_
  have hff : flFails f = { f with down := false } := by unfold flFails; rw [if_neg h8, if_neg h15]
  rw [hff]
  exact ⟨rfl, rfl⟩
theorem Zli (f : Fl) (hf : f.Ok) (bf : Nat) (rb : Option Nat) (cb : Nat) (rp : Option Nat) (cp : Nat) (S : List Nat) (w0 : World) (hown : Own w0 S w0 (FlH bf rb cb rp cp f)) (at_ : Int) (u : Nat) (hv : u < 256) : Sp Tryz.prog 15 [.pointer (some ⟨bf, 0, none⟩), .int .i64 at_, .int .u8 u] w0 S (fun v L => v = .int .i64 (Yp f at_ u).2 ∧ L = FlH bf rb cb rp cp (Yp f at_ u).1) := by
  have hbl := hf.hi
  have hbl0 := hf.lo
  have hblm := hf.len
  have hpr := hf.pr
  refine ZA Tryz.func15 rfl Tryz.ntmps15 rfl hown ?_
  simp only [ZT]
  refine Zb <| Za <| gas rfl rfl <| gA <| Zb <| Zb <| Za <| gm rfl rfl <| gm rfl rfl <| gm rfl rfl <| Zl (Yf [0, 1, 2] [] rfl (vf := []) (vc := []) rfl rfl Tryz.call41 (by decide) rfl (fun w how hc => Zgh f hf bf rb cb rp cp _ w hc) ?_)
  rintro _ _ ⟨rfl, rfl⟩
  refine gr rfl (by exact XE (b := 256) rfl rfl (by omega)) ?_
  rw [show f.b.length / 256 * 256 = f.b.length by omega]
  refine Zl (Yf [0, 1, 2] [] rfl (vf := []) (vc := []) rfl rfl Tryz.call40 (by decide) rfl (fun w how hc => begins_ok f hf bf rb cb rp cp _ w hc at_ f.b.length) ?_)
  rintro _ _ ⟨rfl, rfl⟩
  refine gas rfl rfl <| gA <| Zb <| Za <| gm rfl rfl <| gr rfl (ZX rfl rfl) (Zx (fun h15 => ?_) (fun h15 => ?_))
  · refine gA <| Zj rfl <| Zb <| Za <| gm rfl rfl <| gas rfl rfl <| gA <| Zp <| Zg <| Zz (.inl rfl) Tryz.results15 rfl [0, 1, 2] (by decide) ?_
    have hp : Yp f at_ u = (f, Yx f at_ f.b.length) := by unfold Yp; rw [if_pos h15]
    rw [hp]
    exact ⟨rfl, rfl⟩
  have hbz : Yx f at_ (f.b.length : Int) = 0 := by omega
  obtain ⟨hat0, hat1, hdn⟩ : 0 ≤ at_ ∧ at_ < (f.b.length : Int) ∧ f.down = false := by
    unfold Yx at hbz
    split at hbz
    · omega
    · split at hbz
      · omega
      · split at hbz
        · omega
        · rename_i h1 h2 h3; exact ⟨by omega, by omega, by simpa using h3⟩
  obtain ⟨k, rfl⟩ : ∃ k : Nat, at_ = k := ⟨at_.toNat, by omega⟩
  refine gA <| Zk rfl <| Zu <| Ze <| Zb <| Za <| gm rfl rfl <| gnc rfl rfl <| gr rfl (Zd rfl (Zi9 _)) <| gr rfl (Zh Tryz.underlying3 rfl rfl (by exact Zo 0 rfl rfl)) ?_
  refine gr rfl (by exact ZQ (b := 1) rfl rfl (by omega)) ?_
  refine gnc rfl rfl <| gr rfl (Zd rfl (Zi9 _)) <| Zl (Z7 0 Xu rfl rfl rfl rfl rfl (by rfl) (by rfl) ?_)
  refine gA <| Zb <| Zb <| Za <| gm rfl rfl <| Zl (Yf [0, 1, 2] [] rfl (vf := []) (vc := []) rfl rfl Tryz.call42 (by decide) rfl (fun w how hc => Zjt { f with pr := f.pr + 1 } ⟨hf.l0, hf.l1⟩ bf rb cb rp cp _ w hc) ?_)
  rintro _ _ ⟨rfl, rfl⟩
  obtain ⟨g, hg⟩ : ∃ g, flFails { f with pr := f.pr + 1 } = g := ⟨_, rfl⟩
  have hgb : g.b = f.b := by rw [← hg, Zgg]
  have hgp : g.picks = f.picks := by rw [← hg, Wy]
  have hgl : g.b.length = f.b.length := by rw [hgb]
  have hgpl : g.picks.length = f.picks.length := by rw [hgp]
  rw [hg]
  refine Z3 (fun hfd => ?_) (fun hfd => ?_)
  · have hgbs : ∀ z ∈ g.b, z < 256 := by rw [hgb]; exact hf.bs
    have hgps : ∀ z ∈ g.picks, z < 256 := by rw [hgp]; exact hf.ps
    refine gr rfl (rd_not rfl) <| gA <| Zk rfl <| Zu <| Ze <| Zb <| Zb <| Za <| gm rfl rfl <| gnc rfl rfl <| gr rfl (Zd rfl (JF _)) <| gr rfl (Zh Tryz.underlying65 rfl rfl (by exact Zo 0 rfl rfl)) ?_
    refine gr rfl (ZF Tryz.underlying65 rfl) <| gr rfl (YW rfl rfl) (Zx (fun h42 => ?_) (fun h42 => ?_))
    · refine gA <| Zj rfl <| Za <| gm rfl rfl <| gm rfl rfl <| gnc rfl rfl <| gr rfl (Zd rfl (JF _)) <| gr rfl (Zh Tryz.underlying65 rfl rfl (by exact Zo 0 rfl rfl)) ?_
      refine gr rfl (Ye 2 rfl Tryz.underlying65 Ym rfl rfl (by omega) (by omega)) ?_
      refine gr rfl (Zh Tryz.underlying5 rfl rfl (XX 2 rfl (Xn (Wk (show 0 < g.picks.length by omega))))) ?_
      refine gr rfl (Zb8 rfl rfl (by exact hv) (by exact Xr hgps 0)) ?_
      refine gas rfl rfl <| gA <| Zb <| Za <| gm rfl rfl <| gnc rfl rfl <| gr rfl (Zd rfl (WB _)) <| gr rfl (Zh Tryz.underlying65 rfl rfl (by exact Zo 0 rfl rfl)) ?_
      refine gm rfl rfl <| gr rfl (Ye 1 rfl Tryz.underlying65 Ym rfl rfl (by omega) (by omega)) ?_
      refine gr rfl (Zh Tryz.underlying5 rfl rfl (XX 1 rfl (Xn (Wk (show k < g.b.length by omega))))) ?_
      refine gm rfl rfl <| gr rfl (Za6 rfl rfl (by exact Xr hgbs k) (by exact Nat.or_lt_two_pow (n := 8) hv (Xr hgps 0))) ?_
      refine gr rfl (Ye 1 rfl Tryz.underlying65 Ym rfl rfl (by omega) (by omega)) ?_
      refine Zl (Yi 1 Ym rfl rfl rfl rfl (by simp; omega) (Vt g.b k _) (by rfl) ?_)
      refine gA <| Zb <| Za <| gas rfl rfl <| gA <| Zp <| Zz (.inl rfl) Tryz.results15 rfl [0, 1, 2] (by decide) ?_
      have hp : Yp f (k : Int) u = XF f k u := by unfold Yp; rw [if_neg (by omega), Int.toNat_natCast]
      have hp1 : XF f k u = ({ g with b := g.b.set k (gB g.b k &&& (u ||| gB g.picks 0)) }, 9) := by unfold XF; rw [hg, if_neg (by rw [hfd]; decide), if_pos (show 0 < f.picks.length by omega), ← hgb, ← hgp]
      rw [hp, hp1]
      exact ⟨rfl, by simp only [pick, FlH, Fl.cells, List.length_set]; rfl⟩
    refine gA <| Zk rfl <| Zu <| Ze <| Zb <| Za <| gm rfl rfl <| gnc rfl rfl <| gr rfl (Zd rfl (WB _)) <| gr rfl (Zh Tryz.underlying65 rfl rfl (by exact Zo 0 rfl rfl)) ?_
    refine gm rfl rfl <| gr rfl (Ye 1 rfl Tryz.underlying65 Ym rfl rfl (by omega) (by omega)) ?_
    refine gr rfl (Zh Tryz.underlying5 rfl rfl (XX 1 rfl (Xn (Wk (show k < g.b.length by omega))))) ?_
    refine gm rfl rfl <| gr rfl (Za6 rfl rfl (by exact Xr hgbs k) (by exact hv)) ?_
    refine gr rfl (Ye 1 rfl Tryz.underlying65 Ym rfl rfl (by omega) (by omega)) ?_
    refine Zl (Yi 1 Ym rfl rfl rfl rfl (by simp; omega) (Vt g.b k _) (by rfl) ?_)
    refine gA <| Zb <| Za <| gas rfl rfl <| gA <| Zp <| Zz (.inl rfl) Tryz.results15 rfl [0, 1, 2] (by decide) ?_
    have hp : Yp f (k : Int) u = XF f k u := by unfold Yp; rw [if_neg (by omega), Int.toNat_natCast]
    have hp1 : XF f k u = ({ g with b := g.b.set k (gB g.b k &&& u) }, 9) := by unfold XF; rw [hg, if_neg (by rw [hfd]; decide), if_neg (show ¬ 0 < f.picks.length by omega), ← hgb]
    rw [hp, hp1]
    exact ⟨rfl, by simp only [pick, FlH, Fl.cells, List.length_set]; rfl⟩
  have hgbs : ∀ z ∈ g.b, z < 256 := by rw [hgb]; exact hf.bs
  have hgps : ∀ z ∈ g.picks, z < 256 := by rw [hgp]; exact hf.ps
  refine gr rfl (rd_not rfl) <| gA <| Zj rfl <| Zb <| Za <| gm rfl rfl <| gnc rfl rfl <| gr rfl (Zd rfl (WB _)) <| gr rfl (Zh Tryz.underlying65 rfl rfl (by exact Zo 0 rfl rfl)) ?_
  refine gm rfl rfl <| gr rfl (Ye 1 rfl Tryz.underlying65 Ym rfl rfl (by omega) (by omega)) ?_
  refine gr rfl (Zh Tryz.underlying5 rfl rfl (XX 1 rfl (Xn (Wk (show k < g.b.length by omega))))) ?_
  refine gm rfl rfl <| gr rfl (Za6 rfl rfl (by exact Xr hgbs k) (by exact hv)) ?_
  refine gr rfl (Ye 1 rfl Tryz.underlying65 Ym rfl rfl (by omega) (by omega)) ?_
  refine Zl (Yi 1 Ym rfl rfl rfl rfl (by simp; omega) (Vt g.b k _) (by rfl) ?_)
  refine gA <| Zb <| Za <| gas rfl rfl <| gA <| Zp <| Zg <| Zz (.inl rfl) Tryz.results15 rfl [0, 1, 2] (by decide) ?_
  have hp : Yp f (k : Int) u = XF f k u := by unfold Yp; rw [if_neg (by omega), Int.toNat_natCast]
  have hp1 : XF f k u = ({ g with b := g.b.set k (gB g.b k &&& u) }, 0) := by unfold XF; rw [hg, if_pos (by rw [hfd]; rfl), ← hgb]
  rw [hp, hp1]
  exact ⟨rfl, by simp only [pick, FlH, Fl.cells, List.length_set]; rfl⟩
namespace Iv
theorem J3 (p b : List Nat) (o n : Nat) : orTo p b o (n + 1) = (orTo p b o n).set (o + n) (gB (orTo p b o n) (o + n) ||| gB p (n % p.length)) := by
  unfold orTo; rw [List.range_succ, List.foldl_append]; rfl
theorem VS (p b : List Nat) (o : Nat) : ∀ n, (orTo p b o n).length = b.length
  | 0 => rfl
  | n + 1 => by rw [J3, List.length_set, VS p b o n]
theorem JK {b : List Nat} {k z : Nat} (h : ∀ x ∈ b, x < 256) (hz : z < 256) : ∀ x ∈ b.set k z, x < 256 := fun x hx => by
  rcases List.mem_or_eq_of_mem_set hx with h1 | h1
  · exact h x h1
  · omega
theorem Zdi {p b : List Nat} (hb : ∀ z ∈ b, z < 256) (hp : ∀ z ∈ p, z < 256) (o : Nat) : ∀ n, ∀ z ∈ orTo p b o n, z < 256
  | 0 => hb
  | n + 1 => by
    rw [J3]
    exact JK (Zdi hb hp o n) (Nat.or_lt_two_pow (n := 8) (Xr (Zdi hb hp o n) _) (Xr hp _))
end Iv
theorem Zju (f : Fl) (hf : f.Ok) (bf : Nat) (rb : Option Nat) (cb : Nat) (rp : Option Nat) (cp : Nat) (S : List Nat) (w0 : World) (hown : Own w0 S w0 (FlH bf rb cb rp cp f)) (at_ : Int) : Sp Tryz.prog 72 [.pointer (some ⟨bf, 0, none⟩), .int .i64 at_] w0 S (fun v L => v = .int .i64 (Yh f at_).2 ∧ L = FlH bf rb cb rp cp (Yh f at_).1) := by
  have hbl := hf.hi
  have hbl0 := hf.lo
  have hblm := hf.len
  have hpr := hf.pr
  have her := hf.er
  have hpl := hf.pl
  obtain ⟨gb, rfl, hcb⟩ := JJ (hown.holds (.row 5 1 rb f.b.length cb (f.b.map u8V)) (by simp)) (by omega)
  refine ZA Tryz.func72 rfl Tryz.ntmps72 rfl hown ?_
  simp only [ZT]
  refine Zb <| Za <| gas rfl rfl <| gA <| Zb <| Zb <| Za <| gm rfl rfl <| gm rfl rfl <| gm rfl rfl <| Zl (Yf [0, 1, 2] [] rfl (vf := []) (vc := []) rfl rfl Tryz.call41 (by decide) rfl (fun w how hc => Zgh f hf bf (some gb) cb rp cp _ w hc) ?_)
  rintro _ _ ⟨rfl, rfl⟩
  refine Zl (Yf [0, 1, 2] [] rfl (vf := []) (vc := []) rfl rfl Tryz.call40 (by decide) rfl (fun w how hc => begins_ok f hf bf (some gb) cb rp cp _ w hc at_ (f.b.length / 256 : Nat)) ?_)
  rintro _ _ ⟨rfl, rfl⟩
  refine gas rfl rfl <| gA <| Zb <| Za <| gm rfl rfl <| gr rfl (ZX rfl rfl) (Zx (fun h14 => ?_) (fun h14 => ?_))
  · refine gA <| Zj rfl <| Zb <| Za <| gm rfl rfl <| gas rfl rfl <| gA <| Zp <| Zg <| Zz (.inl rfl) Tryz.results72 rfl [0, 1, 2] (by decide) ?_
    have hp : Yh f at_ = (f, Yx f at_ (f.b.length / 256 : Nat)) := by unfold Yh; rw [if_pos h14]
    rw [hp]
    exact ⟨rfl, rfl⟩
  have hbz : Yx f at_ ((f.b.length / 256 : Nat) : Int) = 0 := by omega
  obtain ⟨hat0, hat1, hdn⟩ : 0 ≤ at_ ∧ at_ < ((f.b.length / 256 : Nat) : Int) ∧ f.down = false := by
    unfold Yx at hbz
    split at hbz
    · omega
    · split at hbz
      · omega
      · split at hbz
        · omega
        · rename_i h1 h2 h3; exact ⟨by omega, by omega, by simpa using h3⟩
  obtain ⟨k, rfl⟩ : ∃ k : Nat, at_ = k := ⟨at_.toNat, by omega⟩
  refine gA <| Zk rfl <| Zu <| Ze <| Zb <| Za <| gm rfl rfl <| gnc rfl rfl <| gr rfl (Zd rfl (Zja _)) <| gr rfl (Zh Tryz.underlying3 rfl rfl (by exact Zo 0 rfl rfl)) ?_
  refine gr rfl (by exact ZQ (b := 1) rfl rfl (by omega)) ?_
  refine gnc rfl rfl <| gr rfl (Zd rfl (Zja _)) <| Zl (Z7 0 Xu rfl rfl rfl rfl rfl (by rfl) (by rfl) ?_)
  refine gA <| Zb <| Za <| gm rfl rfl <| gnc rfl rfl <| gr rfl (Zd rfl (WB _)) <| gr rfl (Zh Tryz.underlying65 rfl rfl (by exact Zo 0 rfl rfl)) ?_
  refine gm rfl rfl <| gr rfl (by exact XE (b := 256) rfl rfl (by omega)) ?_
  refine gm rfl rfl <| gr rfl (by exact ZQ (b := 1) rfl rfl (by omega)) ?_
  refine gr rfl (by exact XE (b := 256) rfl rfl (by omega)) ?_
  refine gr rfl (VI Tryz.underlying65 Ym rfl rfl rfl (by omega) (by omega) (by omega)) ?_
  refine gas rfl rfl <| gA <| Zb <| Zb ?_
  simp only [Int.toNat_natCast]
  rw [Zcj (show k * 256 < cb by omega), show (k + 1) * 256 - k * 256 = 256 by omega]
  refine Za <| gm rfl rfl <| Zl (Yf [0, 1, 2] [] rfl (vf := []) (vc := []) rfl rfl Tryz.call42 (by decide) rfl (fun w how hc => Zjt { f with er := f.er + 1 } ⟨hf.l0, hf.l1⟩ bf (some gb) cb rp cp _ w hc) ?_)
  rintro _ _ ⟨rfl, rfl⟩
  obtain ⟨g, hg⟩ : ∃ g, flFails { f with er := f.er + 1 } = g := ⟨_, rfl⟩
  have hgb : g.b = f.b := by rw [← hg, Zgg]
  have hgp : g.picks = f.picks := by rw [← hg, Wy]
  have hgl : g.b.length = f.b.length := by rw [hgb]
  have hgpl : g.picks.length = f.picks.length := by rw [hgp]
  rw [hg]
  refine Z3 (fun hfd => ?_) (fun hfd => ?_)
  · have hgbs : ∀ z ∈ g.b, z < 256 := by rw [hgb]; exact hf.bs
    have hgps : ∀ z ∈ g.picks, z < 256 := by rw [hgp]; exact hf.ps
    refine gr rfl (rd_not rfl) <| gm rfl rfl <| Zi rfl rfl <| Zn rfl (Zm rfl) <| Zi rfl rfl <| Zn rfl (ZI rfl) <| Zi rfl rfl <| Zn rfl (Zd rfl (JF _)) <| Zi rfl rfl (Zn rfl (Zh Tryz.underlying65 rfl rfl (by exact Zo 0 rfl rfl)) ?_)
    refine Zi rfl rfl <| Zn rfl (ZF Tryz.underlying65 rfl) <| Zi rfl rfl (Zn rfl (Yt rfl rfl) (Zx (fun h42 => ?_) (fun h42 => ?_)))
    · refine gr rfl (Zq rfl rfl) <| gA <| Zj rfl <| Za <| gm rfl rfl <| Zl (ZK (sz := 1) rfl rfl (fun _ => VQ _) rfl rfl (fun b45 => ?_))
      refine gm rfl rfl <| gr rfl (ZF Tryz.underlying65 rfl) <| Zl (ZD rfl (vf := []) (vc := []) rfl rfl Tryz.call76 (fun w2 ho => VR 255 256 (rowA (some b45)) 1 w2 (ho.rowSl 0 rfl) (by omega)) ?_)
      rintro _ _ ⟨rr, cr, rfl, rfl⟩
      have hcs : (((List.replicate 256 255).map u8V).drop 0).take 256 = (List.replicate 256 255).map u8V := by rw [List.drop_zero, List.take_of_length_le (by simp)]
      refine Zl (XZ 3 (k * 256) (cs := (List.replicate 256 255).map u8V) Tryz.underlying65 Ym rfl rfl rfl rfl (by simp) (Zg8 0 (a := some rr) rfl hcs) (by simp; omega) (Zhe _) (by rfl) ?_)
      rw [Zlh, List.length_replicate]
      refine gA <| Zb <| Zb <| Za <| gm rfl rfl <| gnc rfl rfl <| gr rfl (Zd rfl (XJ _)) <| gr rfl (Zh Tryz.underlying4 rfl rfl (by exact Zo 2 rfl rfl)) ?_
      refine Z3 (fun h78 => ?_) (fun h78 => ?_)
      · refine gA <| Zj rfl <| Zb <| Za <| gas rfl rfl <| gA <| Zp <| Zg <| Zz (.inl rfl) Tryz.results72 rfl [2, 3, 4] (by decide) ?_
        have hp : Yh f (k : Int) = YX f k := by unfold Yh; rw [if_neg (by omega), Int.toNat_natCast]
        have hp1 : YX f k = ({ g with b := g.b.take (k * 256) ++ List.replicate 256 255 ++ g.b.drop (k * 256 + 256) }, 9) := by unfold YX; rw [hg, if_pos (by rw [decide_eq_true (show f.picks.length = 0 by omega), Bool.or_true]), if_pos hfd, ← hgb]
        have hlen : (g.b.take (k * 256) ++ List.replicate 256 255 ++ g.b.drop (k * 256 + 256)).length = g.b.length := by simp; omega
        obtain ⟨B, hB⟩ : ∃ B, g.b.take (k * 256) ++ List.replicate 256 255 ++ g.b.drop (k * 256 + 256) = B := ⟨_, rfl⟩
        rw [hB] at hp1 hlen
        rw [hp, hp1]
        rw [hB]
        exact ⟨rfl, by simp only [pick, FlH, Fl.cells, hlen]; rfl⟩
      rw [hfd] at h78; cases h78
    refine gr rfl (Zq rfl rfl) <| gA <| Zk rfl <| Zb <| Za <| gm rfl rfl <| gr rfl (ZF Tryz.underlying65 rfl) <| gm rfl rfl <| gA <| ZC <| Z0 (ι := Nat) [(0, _), (6, _), (51, _)] [_, _] (fun j => j ≤ 256) (fun j Fr0 => ((52, natV j) :: Fr0)) (fun j Fr0 => (.row 5 1 (some gb) g.b.length cb ((orTo g.picks g.b (k * 256) j).map u8V) :: Fr0)) (fun j => 256 - j) 0 (Nat.zero_le _) ⟨rfl, rfl, rfl, rfl, trivial⟩ ⟨[1, 0, 2], by decide, rfl⟩ ?_
    rintro j hj
    obtain ⟨bj, hbj⟩ : ∃ bj, orTo g.picks g.b (k * 256) j = bj := ⟨_, rfl⟩
    have hbjl : bj.length = g.b.length := by rw [← hbj, VS]
    have hbjs : ∀ z ∈ bj, z < 256 := by rw [← hbj]; exact Zdi hgbs hgps _ _
    rw [hbj]
    refine Zb <| Za <| gr rfl (Z2 rfl rfl) (Zx (fun h53 => ?_) (fun h53 => ?_))
    · have hjm : j % g.picks.length < g.picks.length := Nat.mod_lt _ (by omega)
      refine gA <| Zb <| Zj rfl <| Zu <| Ze <| Zb <| ZC <| Zb <| Za <| gm rfl rfl <| gas rfl rfl <| gA <| ZP [1, 2] false 19 rfl <| Zc 0 rfl rfl ⟨[1, 2], by decide, rfl⟩ (Zf (Zm rfl)) ?_
      refine Zc 1 rfl rfl ⟨[1, 2], by decide, rfl⟩ (Zf (Zm rfl)) ?_
      refine Zc 2 rfl rfl ⟨[1, 2], by decide, rfl⟩ (Zf (Zb4 Tryz.underlying65 Ym rfl rfl (by omega) (by omega))) ?_
      refine Zc 4 rfl rfl ⟨[1, 2], by decide, rfl⟩ (Zf (Zm rfl)) ?_
      refine Zc 5 rfl rfl ⟨[1, 2], by decide, rfl⟩ (Zf (ZI rfl)) ?_
      refine Zc 6 rfl rfl ⟨[1, 2], by decide, rfl⟩ (Zf (Zd rfl (JF _))) ?_
      refine Zc 7 rfl rfl ⟨[1, 2], by decide, rfl⟩ (Zf (Zh Tryz.underlying65 rfl rfl (by exact Zo 0 rfl rfl))) ?_
      refine Zc 8 rfl rfl ⟨[1, 2], by decide, rfl⟩ (Zf (Zm rfl)) ?_
      refine Zc 9 rfl rfl ⟨[1, 2], by decide, rfl⟩ (Zf (Zm rfl)) ?_
      refine Zc 10 rfl rfl ⟨[1, 2], by decide, rfl⟩ (Zf (ZI rfl)) ?_
      refine Zc 11 rfl rfl ⟨[1, 2], by decide, rfl⟩ (Zf (Zd rfl (JF _))) ?_
      refine Zc 12 rfl rfl ⟨[1, 2], by decide, rfl⟩ (Zf (Zh Tryz.underlying65 rfl rfl (by exact Zo 0 rfl rfl))) ?_
      refine Zc 13 rfl rfl ⟨[1, 2], by decide, rfl⟩ (Zf (ZF Tryz.underlying65 rfl)) ?_
      refine Zc 14 rfl rfl ⟨[1, 2], by decide, rfl⟩ (Zf (by exact Vh rfl rfl (by omega))) ?_
      refine Zc 15 rfl rfl ⟨[1, 2], by decide, rfl⟩ (Zf (Ye 1 rfl Tryz.underlying65 Ym rfl rfl (by omega) (by omega))) ?_
      refine Zc 16 rfl rfl ⟨[1, 2], by decide, rfl⟩ (Zf (Zh Tryz.underlying5 rfl rfl (XX 1 rfl (Xn (Wk (show (j % g.picks.length) < g.picks.length by omega)))))) ?_
      rw [show (⟨gb, k * 256, none⟩ : Addr).add (j : Int).toNat = ⟨gb, k * 256 + j, none⟩ by rw [Addr.add_lit, Int.toNat_natCast]]
      refine ZG 3 rfl (.inr ⟨[1, 2], by decide, rfl⟩) (Zn rfl (Zh Tryz.underlying5 rfl rfl (ld_row 0 (a := some gb) (off := k * 256 + j) rfl (Xn (Wk (show k * 256 + j < bj.length by omega))))) ?_)
      refine Zc 17 rfl rfl ⟨[1, 2], by decide, rfl⟩ (Zf (Zb8 rfl rfl (by exact Xr hbjs _) (by exact Xr hgps _))) ?_
      refine Zc 18 rfl rfl ⟨[1, 2], by decide, rfl⟩ (Zf (Zb4 Tryz.underlying65 Ym rfl rfl (by omega) (by omega))) ?_
      rw [show (⟨gb, k * 256, none⟩ : Addr).add (j : Int).toNat = ⟨gb, k * 256 + j, none⟩ by rw [Addr.add_lit, Int.toNat_natCast]]
      refine ZG 19 rfl (.inr ⟨[1, 2], by decide, rfl⟩) (Yi 0 Ym rfl rfl rfl rfl (by simp; omega) (Vt bj (k * 256 + j) _) (by rfl) ?_)
      refine ZS (.inl (by kernel_rfl)) ?_
      refine ZM <| Ze ?_
      rw [show bj.set (k * 256 + j) (gB bj (k * 256 + j) ||| gB g.picks (j % g.picks.length)) = orTo g.picks g.b (k * 256) (j + 1) by rw [J3, hbj]]
      refine Za <| gr rfl (by exact ZQ (b := 1) rfl rfl (by omega)) ?_
      refine gm rfl rfl <| ZU <| Ze ?_
      exact ZZ (j + 1) ⟨by omega, by omega⟩ ⟨rfl, rfl, rfl, rfl, trivial⟩ ⟨[0, 1, 2], by decide, rfl⟩
    refine gA <| Zb <| Zk rfl <| Z1 <| Zr <| Zr <| ZE <| Ze <| Zb <| Zb <| Za <| gm rfl rfl <| gnc rfl rfl <| gr rfl (Zd rfl (XJ _)) <| gr rfl (Zh Tryz.underlying4 rfl rfl (by exact Zo 1 rfl rfl)) ?_
    refine Z3 (fun h78 => ?_) (fun h78 => ?_)
    · refine gA <| Zj rfl <| Zb <| Za <| gas rfl rfl <| gA <| Zp <| Zg <| Zz (.inl rfl) Tryz.results72 rfl [1, 0, 2] (by decide) ?_
      have hp : Yh f (k : Int) = YX f k := by unfold Yh; rw [if_neg (by omega), Int.toNat_natCast]
      have hp1 : YX f k = ({ g with b := orTo g.picks g.b (k * 256) 256 }, 9) := by unfold YX; rw [hg, if_neg (by rw [hfd, decide_eq_false (show ¬ f.picks.length = 0 by omega)]; decide), if_pos hfd, ← hgb, ← hgp]
      have hlen : (orTo g.picks g.b (k * 256) 256).length = g.b.length := by rw [VS]
      obtain ⟨B, hB⟩ : ∃ B, orTo g.picks g.b (k * 256) 256 = B := ⟨_, rfl⟩
      rw [hB] at hp1 hlen
      rw [hp, hp1]
      have hjB : bj = B := by rw [← hbj, ← hB, show j = 256 by omega]
      rw [hjB]
      exact ⟨rfl, by simp only [pick, FlH, Fl.cells, hlen]; rfl⟩
    rw [hfd] at h78; cases h78
  have hgbs : ∀ z ∈ g.b, z < 256 := by rw [hgb]; exact hf.bs
  have hgps : ∀ z ∈ g.picks, z < 256 := by rw [hgp]; exact hf.ps
  refine gr rfl (rd_not rfl) <| gm rfl rfl <| Zs rfl rfl rfl <| Zs rfl rfl rfl <| Zs rfl rfl rfl <| Zs rfl rfl rfl <| Zs rfl rfl rfl <| Zs rfl rfl rfl <| gr rfl (ZB rfl rfl) <| gA <| Zj rfl <| Za <| gm rfl rfl <| Zl (ZK (sz := 1) rfl rfl (fun _ => VQ _) rfl rfl (fun b45 => ?_))
  refine gm rfl rfl <| gr rfl (ZF Tryz.underlying65 rfl) <| Zl (ZD rfl (vf := []) (vc := []) rfl rfl Tryz.call76 (fun w2 ho => VR 255 256 (rowA (some b45)) 1 w2 (ho.rowSl 0 rfl) (by omega)) ?_)
  rintro _ _ ⟨rr, cr, rfl, rfl⟩
  have hcs : (((List.replicate 256 255).map u8V).drop 0).take 256 = (List.replicate 256 255).map u8V := by rw [List.drop_zero, List.take_of_length_le (by simp)]
  refine Zl (XZ 3 (k * 256) (cs := (List.replicate 256 255).map u8V) Tryz.underlying65 Ym rfl rfl rfl rfl (by simp) (Zg8 0 (a := some rr) rfl hcs) (by simp; omega) (Zhe _) (by rfl) ?_)
  rw [Zlh, List.length_replicate]
  refine gA <| Zb <| Zb <| Za <| gm rfl rfl <| gnc rfl rfl <| gr rfl (Zd rfl (XJ _)) <| gr rfl (Zh Tryz.underlying4 rfl rfl (by exact Zo 2 rfl rfl)) ?_
  refine Z3 (fun h78 => ?_) (fun h78 => ?_)
  · rw [hfd] at h78; cases h78
  refine gA <| Zk rfl <| Zu <| Ze <| Zb <| Za <| gas rfl rfl <| gA <| Zp <| Zz (.inl rfl) Tryz.results72 rfl [2, 3, 4] (by decide) ?_
  have hp : Yh f (k : Int) = YX f k := by unfold Yh; rw [if_neg (by omega), Int.toNat_natCast]
  have hp1 : YX f k = ({ g with b := g.b.take (k * 256) ++ List.replicate 256 255 ++ g.b.drop (k * 256 + 256) }, 0) := by unfold YX; rw [hg, if_pos (by rw [hfd]; rfl), if_neg (by rw [hfd]; decide), ← hgb]
  have hlen : (g.b.take (k * 256) ++ List.replicate 256 255 ++ g.b.drop (k * 256 + 256)).length = g.b.length := by simp; omega
  obtain ⟨B, hB⟩ : ∃ B, g.b.take (k * 256) ++ List.replicate 256 255 ++ g.b.drop (k * 256 + 256) = B := ⟨_, rfl⟩
  rw [hB] at hp1 hlen
  rw [hp, hp1]
  rw [hB]
  exact ⟨rfl, by simp only [pick, FlH, Fl.cells, hlen]; rfl⟩
namespace Iv
section
variable {dm : List Deferred} {P : Program} {n : Nat} {e : Env} {w0 : World} {S : List Nat} {l : List HL} {dst : Option Tmp} {ty : TypeId} {pos : String} {aft : Array Edge} {gd : Option (Nat × Bool)} {x y : Operand} {t : TypeId}
end
def pop8 : ByteArray := ⟨(([0, 1, 1, 2, 1, 2, 2, 3, 1, 2, 2, 3, 2, 3, 3, 4, 1, 2, 2, 3, 2, 3, 3, 4, 2, 3, 3, 4, 3, 4, 4, 5, 1, 2, 2, 3, 2, 3, 3, 4, 2, 3, 3, 4, 3, 4, 4, 5, 2, 3, 3, 4, 3, 4, 4, 5, 3, 4, 4, 5, 4, 5, 5, 6] ++ [1, 2, 2, 3, 2, 3, 3, 4, 2, 3, 3, 4, 3, 4, 4, 5, 2, 3, 3, 4, 3, 4, 4, 5, 3, 4, 4, 5, 4, 5, 5, 6, 2, 3, 3, 4, 3, 4, 4, 5, 3, 4, 4, 5, 4, 5, 5, 6, 3, 4, 4, 5, 4, 5, 5, 6, 4, 5, 5, 6, 5, 6, 6, 7]) ++ ([1, 2, 2, 3, 2, 3, 3, 4, 2, 3, 3, 4, 3, 4, 4, 5, 2, 3, 3, 4, 3, 4, 4, 5, 3, 4, 4, 5, 4, 5, 5, 6, 2, 3, 3, 4, 3, 4, 4, 5, 3, 4, 4, 5, 4, 5, 5, 6, 3, 4, 4, 5, 4, 5, 5, 6, 4, 5, 5, 6, 5, 6, 6, 7] ++ [2, 3, 3, 4, 3, 4, 4, 5, 3, 4, 4, 5, 4, 5, 5, 6, 3, 4, 4, 5, 4, 5, 5, 6, 4, 5, 5, 6, 5, 6, 6, 7, 3, 4, 4, 5, 4, 5, 5, 6, 4, 5, 5, 6, 5, 6, 6, 7, 4, 5, 5, 6, 5, 6, 6, 7, 5, 6, 6, 7, 6, 7, 7, 8]) : List UInt8).toArray⟩
def pc8 (z : Nat) : Nat := z % 2 + z / 2 % 2 + z / 4 % 2 + z / 8 % 2 + z / 16 % 2 + z / 32 % 2 + z / 64 % 2 + z / 128 % 2
theorem pop8_at : ∀ z : Fin 256, pop8[z.val]? = some (UInt8.ofNat (pc8 z.val)) := by decide +kernel
theorem Zap (z : Nat) : pc8 z ≤ 8 := by unfold pc8; omega
theorem Zeu (z : Nat) : (UInt8.ofNat (pc8 z)).toNat = pc8 z := by
  have := Zap z
  simp; omega
def Yg : List Nat → Nat
  | [] => 0
  | z :: zs => (8 - pc8 z) + Yg zs
theorem JL : ∀ zs : List Nat, Yg zs ≤ 8 * zs.length
  | [] => Nat.le_refl _
  | z :: zs => by have := JL zs; simp only [Yg, List.length_cons]; omega
theorem Zgi : ∀ xs ys : List Nat, Yg (xs ++ ys) = Yg xs + Yg ys
  | [], ys => by simp [Yg]
  | x :: xs, ys => by rw [List.cons_append, Yg, Zgi xs ys, Yg]; omega
theorem Zlj {zs : List Nat} {k z : Nat} (h : zs[k]? = some z) : Yg (zs.take (k + 1)) = Yg (zs.take k) + (8 - pc8 z) := by
  rw [take_at h, Zgi]; simp [Yg]
theorem Zaq {w : World} {S : List Nat} {g m : Nat} {cells : List Value} (h : OldSl w S (some ⟨g, 0, none⟩) m 1 cells) (off n : Nat) (hn : off + n ≤ m) : OldSl w S (some ⟨g, off, none⟩) n 1 ((cells.drop off).take n) := by
  have hl := h.len
  refine ⟨by simp; omega, fun _ => rfl, fun j v hv => ?_, fun h0 => h.out (by omega)⟩
  rw [List.getElem?_take] at hv
  split at hv
  · rw [List.getElem?_drop] at hv
    have := h.cells (off + j) v hv
    simp only [adr, Option.getD_some] at this ⊢
    rw [Addr.add_lit] at this ⊢
    rw [Nat.zero_add] at this
    exact this
  · cases hv
theorem Vu (b : List Nat) (o n : Nat) : ((b.map u8V).drop o).take n = ((b.drop o).take n).map u8V := by simp
def flNew (zs : List Nat) : Fl := ⟨zs, -1, [], false, 0, 0, 0⟩
def goodLen (n : Nat) : Prop := n % 256 = 0 ∧ 1024 ≤ n ∧ n ≤ 16384
end Iv
theorem Ones_ok (z : Nat) (hz : z < 256) (w0 : World) : Sp Tryz.prog 142 [u8V z] w0 [] (RV (natV (pc8 z))) := by
  refine ZA Tryz.func142 rfl Tryz.ntmps142 rfl (Own.refl _) ?_
  simp only [ZT]
  refine Zb <| Za <| gas rfl rfl <| gA <| Zb <| Za <| gm rfl rfl <| gr rfl (Zcv (s := pop8) (i := z) Tryz.underlying9 rfl rfl (show pop8[z]? = some (UInt8.ofNat (pc8 z)) from pop8_at ⟨z, hz⟩)) <| gr rfl (YH Tryz.runUnderlying5 Tryz.runUnderlying3 rfl (XK (by omega) (by have := Zap z; rw [Zeu]; omega))) ?_
  refine gas rfl rfl <| gA <| Zp <| Zz (.inl rfl) Tryz.results142 rfl [] (by decide) ?_
  exact ⟨by rw [Zeu], rfl⟩
theorem Zjv (zs : List Nat) (hz : ∀ z ∈ zs, z < 256) (a : Option Addr) (ca : Nat) (w0 : World) (hsl : OldSl w0 [] a zs.length 1 (zs.map u8V)) (hn : zs.length ≤ 1000000) : Sp Tryz.prog 124 [.slice a zs.length ca] w0 [] (RV (natV (Yg zs))) := by
  refine ZA Tryz.func124 rfl Tryz.ntmps124 rfl (Own.refl _) ?_
  simp only [ZT]
  refine Zb <| Za <| gas rfl rfl <| gA <| Zb <| Zb <| Za <| gm rfl rfl <| gr rfl (ZF Tryz.underlying65 rfl) <| gm rfl rfl <| gA <| ZC <| Z0 (ι := Nat) [(5, _), (6, _)] [] (fun j => j ≤ zs.length) (fun j Fr0 => ((7, natV j) :: (2, natV (Yg (zs.take j))) :: Fr0)) (fun j Fr0 => Fr0) (fun j => zs.length - j) 0 (Nat.zero_le _) ⟨rfl, rfl, rfl, rfl, trivial⟩ ⟨[], by decide, rfl⟩ ?_
  rintro j hj
  refine Zb <| Za <| gr rfl (Z2 rfl rfl) (Zx (fun h8 => ?_) (fun h8 => ?_))
  · obtain ⟨z, hzz⟩ := get_some (show j < zs.length by omega)
    have hz8 := hz z (List.mem_of_getElem? hzz)
    have hp8 := Zap z
    have hzl := JL (zs.take j)
    rw [List.length_take] at hzl
    refine gA <| Zb <| Zj rfl <| Zu <| Ze <| Zb <| ZC <| Zb <| Za <| gr rfl (Z8 hsl Tryz.underlying65 Ym rfl rfl (by omega) (by omega)) ?_
    refine gr rfl (Zh Tryz.underlying5 rfl rfl (Xb hsl (Xn hzz))) <| gas rfl rfl <| gA <| Za <| gm rfl rfl <| gm rfl rfl <| Zl (ZD rfl (vf := []) (vc := []) rfl rfl Tryz.call142 (fun w1 ho => Ones_ok z hz8 w1) ?_)
    rintro _ _ ⟨rfl, rfl⟩
    refine gr rfl (by exact Za5 (a := 8) rfl rfl (by omega) (by omega)) ?_
    refine gr rfl (by exact ZQ rfl rfl (by omega)) ?_
    refine gas rfl rfl <| ZU <| ZM <| Ze ?_
    rw [← Zlj hzz]
    refine Za <| gr rfl (by exact ZQ (b := 1) rfl rfl (by omega)) ?_
    refine gm rfl rfl <| ZU <| Ze ?_
    exact ZZ (j + 1) ⟨by omega, by omega⟩ ⟨rfl, rfl, rfl, rfl, trivial⟩ ⟨[], by decide, rfl⟩
  refine gA <| Zb <| Zk rfl <| Z1 <| Zr <| Zr <| ZE <| Ze <| Zb <| Za <| gm rfl rfl <| gas rfl rfl <| gA <| Zp <| Zz (.inl rfl) Tryz.results124 rfl [] (by decide) ?_
  exact ⟨by rw [show j = zs.length by omega, List.take_length], rfl⟩
theorem Zjw (zs : List Nat) (hz : ∀ z ∈ zs, z < 256) (a : Option Addr) (ca : Nat) (w0 : World) (hsl : OldSl w0 [] a zs.length 1 (zs.map u8V)) (hn : zs.length ≤ 1000000) : Sp Tryz.prog 106 [.slice a zs.length ca] w0 [] (RV (.bool (decide (Yg zs = 0)))) := by
  refine ZA Tryz.func106 rfl Tryz.ntmps106 rfl (Own.refl _) ?_
  simp only [ZT]
  refine Zb <| Za <| gas rfl rfl <| gA <| Zb <| Za <| gm rfl rfl <| Zl (ZD rfl (vf := []) (vc := []) rfl rfl Tryz.call124 (fun w1 ho => Zjv zs hz a ca w1 (hsl.at ho) hn) ?_)
  rintro _ _ ⟨rfl, rfl⟩
  refine gr rfl (Yt rfl rfl) <| gas rfl rfl <| gA <| Zp <| Zz (.inl rfl) Tryz.results106 rfl [] (by decide) ?_
  refine ⟨congrArg Value.bool (decide_eq_decide.2 ⟨fun h => by omega, fun h => by omega⟩), rfl⟩
theorem Load_ok (zs : List Nat) (a : Option Addr) (ca : Nat) (w0 : World) (hsl : OldSl w0 [] a zs.length 1 (zs.map u8V)) (hn : zs.length ≤ 140737488355328) (hg : goodLen zs.length) : Sp Tryz.prog 75 [.slice a zs.length ca] w0 [] (fun v L => ∃ (bf : Nat) (rb : Option Nat) (cb : Nat), v = .tuple #[.pointer (some ⟨bf, 0, none⟩), .int .i64 0] ∧ L = FlH bf rb cb none 0 (flNew zs)) := by
  obtain ⟨hg1, hg2, hg3⟩ := hg
  refine ZA Tryz.func75 rfl Tryz.ntmps75 rfl (Own.refl _) ?_
  simp only [ZT]
  refine Zb <| Za <| gas rfl rfl <| gas rfl rfl <| gA <| Zb <| Zb <| Za <| gm rfl rfl <| gr rfl (ZF Tryz.underlying65 rfl) <| gr rfl (by exact Vh (b := 256) rfl rfl (by omega)) ?_
  refine gr rfl (ZX rfl rfl) (Zx (fun h7 => ?_) (fun h7 => ?_))
  · exfalso; omega
  refine gm rfl rfl <| Zi rfl rfl <| Zn rfl (Zm rfl) <| Zi rfl rfl <| Zn rfl (ZF Tryz.underlying65 rfl) <| Zi rfl rfl (Zn rfl (Z2 rfl rfl) (Zx (fun h11 => ?_) (fun h11 => ?_)))
  · exfalso; omega
  refine gr rfl (Zq rfl rfl) <| gm rfl rfl <| Zi rfl rfl <| Zn rfl (Zm rfl) <| Zi rfl rfl <| Zn rfl (ZF Tryz.underlying65 rfl) <| Zi rfl rfl (Zn rfl (YW rfl rfl) (Zx (fun h16 => ?_) (fun h16 => ?_)))
  · exfalso; omega
  refine gr rfl (Zq rfl rfl) <| gA <| Zk rfl <| Zu <| Ze <| Zb <| Y2 5 1 <| Za <| gm rfl rfl <| Zl (ZD rfl (vf := []) (vc := []) rfl rfl Tryz.call39 (fun w2 ho => Xy zs a ca w2 (hsl.at ho) hn) ?_)
  rintro _ _ ⟨rc, cc, rfl, rfl⟩
  refine gr rfl (ZJ rfl (fun _ => Zhn _ _ _ _ _)) ?_
  refine Zl (Yc rfl rfl rfl (fun b21 => ?_))
  refine gas rfl rfl <| gas rfl rfl <| gA <| Zp <| YI (.inl rfl) Tryz.results75 rfl rfl [0, 1, 2] (by decide) ?_
  exact ⟨b21, rc, cc, rfl, rfl⟩
theorem New_ok (n : Nat) (hn4 : 4 ≤ n) (hn64 : n ≤ 64) (w0 : World) : Sp Tryz.prog 34 [natV n] w0 [] (fun v L => ∃ (bf : Nat) (rb : Option Nat) (cb : Nat), v = .tuple #[.pointer (some ⟨bf, 0, none⟩), .int .i64 0] ∧ L = FlH bf rb cb none 0 (flNew (List.replicate (256 * n) 255))) := by
  refine ZA Tryz.func34 rfl Tryz.ntmps34 rfl (Own.refl _) ?_
  simp only [ZT]
  refine Zb <| Za <| gas rfl rfl <| gas rfl rfl <| gA <| Zb <| Zb <| Za <| gm rfl rfl <| gr rfl (Z2 rfl rfl) (Zx (fun h5 => ?_) (fun h5 => ?_))
  · exfalso; omega
  refine gm rfl rfl <| Zi rfl rfl <| Zn rfl (Zm rfl) <| Zi rfl rfl (Zn rfl (YW rfl rfl) (Zx (fun h8 => ?_) (fun h8 => ?_)))
  · exfalso; omega
  refine gr rfl (Zq rfl rfl) <| gA <| Zk rfl <| Zu <| Ze <| Zb <| Za <| Zl (ZK (sz := 1) rfl rfl (fun _ => VQ _) rfl rfl (fun b10 => ?_))
  refine gm rfl rfl <| gr rfl (by exact XE (a := 256) rfl rfl (by omega)) ?_
  refine Zl (ZD rfl (vf := []) (vc := []) rfl rfl Tryz.call76 (fun w2 ho => VR 255 (256 * n) (rowA (some b10)) 1 w2 (ho.rowSl 0 rfl) (by omega)) ?_)
  rintro _ _ ⟨rr, cr, rfl, rfl⟩
  have hll : (List.replicate (256 * n) 255).length = 256 * n := List.length_replicate
  refine Zl (ZD rfl (vf := []) (vc := []) rfl rfl Tryz.call75 (fun w2 ho => by have h := Load_ok (List.replicate (256 * n) 255) (rowA (some rr)) (256 * n) w2 (by rw [hll]; exact ho.rowSl 0 rfl) (by rw [hll]; omega) (by rw [hll]; exact ⟨by omega, by omega, by omega⟩); rw [hll] at h; exact h) ?_)
  rintro _ _ ⟨bf, rb, cb, rfl, rfl⟩
  refine gr rfl (Zv rfl rfl) <| gr rfl (Zv rfl rfl) <| gas rfl rfl <| gas rfl rfl <| gA <| Zp <| YI (.inl rfl) Tryz.results34 rfl rfl [0, 1, 2] (by decide) ?_
  exact ⟨bf, rb, cb, rfl, rfl⟩
theorem Zlk (f : Fl) (hf : f.Ok) (bf : Nat) (rb : Option Nat) (cb : Nat) (rp : Option Nat) (cp : Nat) (S : List Nat) (w0 : World) (hown : Own w0 S w0 (FlH bf rb cb rp cp f)) (bk : Nat) (hin : bk * 256 + 256 ≤ f.b.length) : Sp Tryz.prog 69 [.pointer (some ⟨bf, 0, none⟩), natV bk] w0 S (fun v L => v = .bool (decide (Yg ((f.b.drop (bk * 256)).take 256) = 0)) ∧ L = FlH bf rb cb rp cp f) := by
  have hbl := hf.hi
  have hbl0 := hf.lo
  obtain ⟨gb, rfl, hcb⟩ := JJ (hown.holds (.row 5 1 rb f.b.length cb (f.b.map u8V)) (by simp)) (by omega)
  refine ZA Tryz.func69 rfl Tryz.ntmps69 rfl hown ?_
  simp only [ZT]
  refine Zb <| Za <| gas rfl rfl <| gA <| Zb <| Za <| gm rfl rfl <| gnc rfl rfl <| gr rfl (Zd rfl (WB _)) <| gr rfl (Zh Tryz.underlying65 rfl rfl (by exact Zo 0 rfl rfl)) ?_
  refine gm rfl rfl <| gr rfl (by exact XE (b := 256) rfl rfl (by omega)) ?_
  refine gm rfl rfl <| gr rfl (by exact ZQ (b := 1) rfl rfl (by omega)) ?_
  refine gr rfl (by exact XE (b := 256) rfl rfl (by omega)) ?_
  refine gr rfl (VI Tryz.underlying65 Ym rfl rfl rfl (by omega) (by omega) (by omega)) ?_
  simp only [Int.toNat_natCast]
  rw [Zcj (show bk * 256 < cb by omega), show (bk + 1) * 256 - bk * 256 = 256 by omega]
  have hpl : ((f.b.drop (bk * 256)).take 256).length = 256 := by simp; omega
  refine Zl (ZD rfl (vf := []) (vc := []) rfl rfl Tryz.call106 (fun w2 ho => by have h := Zjw ((f.b.drop (bk * 256)).take 256) (fun z hz => hf.bs z (List.mem_of_mem_drop (List.mem_of_mem_take hz))) (some ⟨gb, bk * 256, none⟩) (cb - bk * 256) w2 (by rw [hpl, ← Vu]; exact Zaq (ho.rowSl 1 rfl) (bk * 256) 256 (by omega)) (by omega); rw [hpl] at h; exact h) ?_)
  rintro _ _ ⟨rfl, rfl⟩
  refine gas rfl rfl <| gA <| Zp <| Zz (.inl rfl) Tryz.results69 rfl [0, 1, 2] (by decide) ?_
  exact ⟨rfl, rfl⟩
theorem none_q (f : Fl) (hf : f.Ok) (bf : Nat) (rb : Option Nat) (cb : Nat) (rp : Option Nat) (cp : Nat) (w0 : World) (hc : Cells w0 ⟨bf, 0, none⟩ (f.cells rb cb rp cp)) : Sp Tryz.prog 38 [.pointer (some ⟨bf, 0, none⟩)] w0 [] (RV (.bool false)) := by
  refine ZA Tryz.func38 rfl Tryz.ntmps38 rfl (Own.refl _) ?_
  simp only [ZT]
  refine Zb <| Za <| gas rfl rfl <| gA <| Zb <| Za <| gm rfl rfl <| gr rfl (XH eg_32 Tryz.underlying32 rfl rfl) <| gm rfl rfl <| Zi rfl rfl <| Zn rfl (Zm rfl) <| Zi rfl rfl <| Zn rfl (ZI rfl) <| Zi rfl rfl <| Zn rfl (Zd rfl (Zi8 _)) <| Zi rfl rfl (Zn rfl (Zh Tryz.underlying4 rfl rfl (Yd (j := 0) hc (by simp) rfl)) ?_)
  refine Zi rfl rfl <| Zn rfl (rd_not rfl) <| gr rfl (Zq rfl rfl) <| gas rfl rfl <| gA <| Zp <| Zz (.inl rfl) Tryz.results38 rfl [] (by decide) ?_
  exact ⟨rfl, rfl⟩
theorem VT (f : Fl) (hf : f.Ok) (bf : Nat) (rb : Option Nat) (cb : Nat) (rp : Option Nat) (cp : Nat) (w0 : World) (hc : Cells w0 ⟨bf, 0, none⟩ (f.cells rb cb rp cp)) : Sp Tryz.prog 41 [.pointer (some ⟨bf, 0, none⟩)] w0 [] (RV (natV (f.b.length / 256))) := by
  have hbl := hf.hi
  refine ZA Tryz.func41 rfl Tryz.ntmps41 rfl (Own.refl _) ?_
  simp only [ZT]
  refine Zb <| Za <| gas rfl rfl <| gA <| Zb <| Zb <| Za <| gm rfl rfl <| Zl (ZD rfl (vf := []) (vc := []) rfl rfl Tryz.call38 (fun w1 ho => none_q f hf bf rb cb rp cp w1 (hc.at ho)) ?_)
  rintro _ _ ⟨rfl, rfl⟩
  refine gA <| Zk rfl <| Zu <| Ze <| Zb <| Za <| gm rfl rfl <| gnc rfl rfl <| gr rfl (Zd rfl (WB _)) <| gr rfl (Zh Tryz.underlying65 rfl rfl (Yd (j := 1) hc (by simp) rfl)) ?_
  refine gr rfl (ZF Tryz.underlying65 rfl) <| gr rfl (by exact Vi (b := 256) rfl rfl (by omega) (by omega)) ?_
  refine gas rfl rfl <| gA <| Zp <| Zz (.inl rfl) Tryz.results41 rfl [] (by decide) ?_
  exact ⟨rfl, rfl⟩
theorem Zev (f : Fl) (hf : f.Ok) (bf : Nat) (gb : Nat) (cb : Nat) (rp : Option Nat) (cp : Nat) (w0 : World) (hc : Cells w0 ⟨bf, 0, none⟩ (f.cells (some gb) cb rp cp)) (hcb : f.b.length ≤ cb) (bk sl : Nat) (hin : bk * 256 + sl * 24 + 24 ≤ f.b.length) : Sp Tryz.prog 108 [.pointer (some ⟨bf, 0, none⟩), .agg #[natV bk, natV sl]] w0 [] (RV (.slice (some ⟨gb, bk * 256 + sl * 24, none⟩) 24 (cb - (bk * 256 + sl * 24)))) := by
  have hbl := hf.hi
  refine ZA Tryz.func108 rfl Tryz.ntmps108 rfl (Own.refl _) ?_
  simp only [ZT]
  refine Zb <| Za <| Zl (Yc rfl rfl rfl (fun b3 => ?_))
  refine gas rfl rfl <| gA <| Zb <| Za <| gr rfl (Zd rfl (Zbl _)) <| gr rfl (Zh Tryz.underlying3 rfl rfl (by exact Zo 0 rfl rfl)) ?_
  refine gr rfl (by exact XE (b := 256) rfl rfl (by omega)) ?_
  refine gr rfl (Zd rfl (Zbm _)) <| gr rfl (Zh Tryz.underlying3 rfl rfl (by exact Zo 0 rfl rfl)) ?_
  refine gr rfl (by exact XE (b := 24) rfl rfl (by omega)) ?_
  refine gr rfl (by exact ZQ rfl rfl (by omega)) ?_
  refine gas rfl rfl <| gA <| Zb <| Za <| gm rfl rfl <| gnc rfl rfl <| gr rfl (Zd rfl (WB _)) <| gr rfl (Zh Tryz.underlying65 rfl rfl (Yd (j := 1) hc (by simp) rfl)) ?_
  refine gm rfl rfl <| gm rfl rfl <| gr rfl (by exact ZQ (b := 24) rfl rfl (by omega)) ?_
  refine gr rfl (VI Tryz.underlying65 Ym rfl rfl rfl (by omega) (by omega) (by omega)) ?_
  refine gas rfl rfl <| gA <| Zp <| Zz (.inl rfl) Tryz.results108 rfl [] (by decide) ?_
  refine ⟨?_, rfl⟩
  simp only [Int.toNat_natCast]
  rw [Zcj (show bk * 256 + sl * 24 < cb by omega), show bk * 256 + sl * 24 + 24 - (bk * 256 + sl * 24) = 24 by omega]
namespace Iv
def keyP (zs : List Nat) : Nat := gB zs 0 <<< 8 ||| gB zs 1
def numTo (zs : List Nat) (k : Nat) : Nat := (List.range k).foldl (fun x i => x <<< 8 ||| gB zs (3 + i)) 0
def YR (zs : List Nat) : List Nat := (zs.drop 7).take (gB zs 2)
def X1 (zs : List Nat) : Bool := decide (gB zs 23 ≠ Yg (zs.take 23)) || decide (999 < keyP zs) || decide (16 < gB zs 2)
theorem Wl (zs : List Nat) (k : Nat) : numTo zs (k + 1) = numTo zs k <<< 8 ||| gB zs (3 + k) := by unfold numTo; rw [List.range_succ, List.foldl_append]; rfl
theorem Zll {zs : List Nat} (h : ∀ z ∈ zs, z < 256) : ∀ k, numTo zs k < 2 ^ (8 * k)
  | 0 => by simp [numTo]
  | k + 1 => by
    rw [Wl]
    have ih := Zll h k
    have h2 : numTo zs k <<< 8 < 2 ^ (8 * (k + 1)) := by
      rw [Nat.shiftLeft_eq, show 8 * (k + 1) = 8 * k + 8 by omega, Nat.pow_add]
      exact Nat.mul_lt_mul_of_pos_right ih (by decide)
    exact Nat.or_lt_two_pow h2 (Nat.lt_of_lt_of_le (Xr h _) (show 2 ^ 8 ≤ 2 ^ (8 * (k + 1)) from Nat.pow_le_pow_right (by decide) (by omega)))
theorem Zhy {zs : List Nat} (h : ∀ z ∈ zs, z < 256) {k : Nat} (hk : k ≤ 4) : numTo zs k < 4294967296 := Nat.lt_of_lt_of_le (Zll h k) (show 2 ^ (8 * k) ≤ 2 ^ 32 from Nat.pow_le_pow_right (by decide) (by omega))
theorem Zmr {zs : List Nat} (h : ∀ z ∈ zs, z < 256) {k : Nat} (hk : k < 4) : numTo zs k * 2 ^ 8 < 4294967296 := by
  have h1 := Zll h k
  have h2 : (2 : Nat) ^ (8 * k) ≤ 2 ^ 24 := Nat.pow_le_pow_right (by decide) (by omega)
  have h3 : (2 : Nat) ^ 24 = 16777216 := by decide
  omega
theorem key_lt {zs : List Nat} (h : ∀ z ∈ zs, z < 256) : keyP zs < 65536 := by
  unfold keyP
  have h0 := Xr h 0
  have h1 : gB zs 0 <<< 8 < 2 ^ 16 := by rw [Nat.shiftLeft_eq]; omega
  exact Nat.or_lt_two_pow (n := 16) h1 (Nat.lt_trans (Xr h 1) (by decide))
end Iv
namespace Iv
theorem get_part {zs : List Nat} {j : Nat} (hj : j < 4) (hl : zs.length = 24) : (((zs.map u8V).drop 3).take 4)[j]? = some (u8V (gB zs (3 + j))) := by
  rw [List.getElem?_take, if_pos hj, List.getElem?_drop]
  exact Xn (Wk (by omega))
theorem val_sl {w0 : World} {S : List Nat} {zs : List Nat} {a : Option Addr} {ca : Nat} (hsl : OldSl w0 S a 24 1 (zs.map u8V)) (hlen : zs.length = 24) (hca : 24 ≤ ca) (h2 : gB zs 2 ≤ 16) : (YR zs).length = gB zs 2 ∧ OldSl w0 S (J8 a ca 7 1) (YR zs).length 1 ((YR zs).map u8V) := by
  have hl : (YR zs).length = gB zs 2 := by unfold YR; simp; omega
  refine ⟨hl, ?_⟩
  have h := (hsl.drop 7 (by omega) hca).take (gB zs 2) (by omega)
  rw [hl]
  unfold YR
  rw [← Vu]
  simpa using h
end Iv
theorem Zhz (zs : List Nat) (hz : ∀ z ∈ zs, z < 256) (hlen : zs.length = 24) (a : Option Addr) (ca : Nat) (w0 : World) (hsl : OldSl w0 [] a 24 1 (zs.map u8V)) : Sp Tryz.prog 124 [.slice a 23 ca] w0 [] (RV (natV (Yg (zs.take 23)))) := by
  have hl : (zs.take 23).length = 23 := by rw [List.length_take, hlen]; rfl
  have h := Zjv (zs.take 23) (fun z h => hz z (List.mem_of_mem_take h)) a ca w0 (by
    rw [hl, List.map_take]
    have := hsl.take 23 (by omega)
    simpa using this) (by omega)
  rw [hl] at h
  exact h
theorem Zgj (zs : List Nat) (hz : ∀ z ∈ zs, z < 256) (hlen : zs.length = 24) (a : Option Addr) (ca : Nat) (hca : 24 ≤ ca) (w0 : World) (hsl : OldSl w0 [] a 24 1 (zs.map u8V)) : Sp Tryz.prog 107 [.slice a 24 ca] w0 [] (fun v L => (X1 zs = true ∧ v = .tuple #[.agg #[.int .i64 0, .int .u32 0, .slice none 0 0], .bool false] ∧ L = []) ∨ (X1 zs = false ∧ ∃ (r : Option Nat) (c : Nat), v = .tuple #[.agg #[natV (keyP zs), .int .u32 (numTo zs 4 : Nat), .slice (rowA r) (YR zs).length c], .bool true] ∧ L = [.row 5 1 r (YR zs).length c ((YR zs).map u8V)])) := by
  have h0 := Xr hz 0
  have h1 := Xr hz 1
  have h2 := Xr hz 2
  have hk := key_lt hz
  have hs3 : OldSl w0 [] (J8 a ca 3 1) 4 1 (((zs.map u8V).drop 3).take 4) := by have h := (hsl.drop 3 (by omega) hca).take 4 (by omega); exact h
  refine ZA Tryz.func107 rfl Tryz.ntmps107 rfl (Own.refl _) ?_
  simp only [ZT]
  refine Zb <| Za <| Zl (ZN Z6 rfl rfl (fun b2 => ?_))
  refine gas rfl rfl <| gA <| Zb <| ZP [0] false 12 rfl <| Zc 0 rfl rfl ⟨[0], by decide, rfl⟩ (Zf (Zm rfl)) ?_
  refine Zc 1 rfl rfl ⟨[0], by decide, rfl⟩ (Zf (Z8 hsl Tryz.underlying65 Ym rfl rfl (by omega) (by omega))) ?_
  refine Zc 2 rfl rfl ⟨[0], by decide, rfl⟩ (Zf (Zh Tryz.underlying5 rfl rfl (Xb (off := 0) hsl (Xn (Wk (show 0 < zs.length by omega)))))) ?_
  refine Zc 3 rfl rfl ⟨[0], by decide, rfl⟩ (Zf (YH Tryz.runUnderlying5 Tryz.runUnderlying3 rfl (WT (by omega)))) ?_
  refine Zc 4 rfl rfl ⟨[0], by decide, rfl⟩ (Zf (rd_shl (b := 8) rfl rfl (by omega) (by omega))) ?_
  refine Zc 5 rfl rfl ⟨[0], by decide, rfl⟩ (Zf (Zm rfl)) ?_
  refine Zc 6 rfl rfl ⟨[0], by decide, rfl⟩ (Zf (Z8 hsl Tryz.underlying65 Ym rfl rfl (by omega) (by omega))) ?_
  refine Zc 7 rfl rfl ⟨[0], by decide, rfl⟩ (Zf (Zh Tryz.underlying5 rfl rfl (Xb (off := 1) hsl (Xn (Wk (show 1 < zs.length by omega)))))) ?_
  refine Zc 8 rfl rfl ⟨[0], by decide, rfl⟩ (Zf (YH Tryz.runUnderlying5 Tryz.runUnderlying3 rfl (WT (by omega)))) ?_
  refine Zc 9 rfl rfl ⟨[0], by decide, rfl⟩ (Zf (rd_or rfl rfl (by (rw [Nat.shiftLeft_eq]; omega)) (by omega))) ?_
  refine Zc 10 rfl rfl ⟨[0], by decide, rfl⟩ (Zf (ZJ rfl (fun _ => bd_184_0 _))) ?_
  refine ZG 11 rfl (.inr ⟨[0], by decide, rfl⟩) (ZN Z6 rfl rfl (fun b4 => ?_))
  refine ZG 12 rfl (.inr ⟨[1], by decide, rfl⟩) (Zy 0 Z6 rfl rfl rfl rfl rfl rfl (by rfl) ?_)
  refine ZS (.inl (by kernel_rfl)) ?_
  refine Ze <| Zb <| Zb ?_
  rw [show gB zs 0 <<< 8 ||| gB zs 1 = keyP zs from rfl]
  refine Za <| gm rfl rfl <| gr rfl (VI Tryz.underlying65 Ym rfl rfl rfl (by omega) (by omega) (by omega)) ?_
  refine gr rfl (ZF Tryz.underlying65 rfl) <| gm rfl rfl <| gA <| ZC <| Z0 (ι := Nat) [(0, _), (2, _), (4, _), (19, _), (20, _)] [_] (fun j => j ≤ 4) (fun j Fr0 => ((21, natV j) :: Fr0)) (fun j Fr0 => (.blk b4 [natV (keyP zs), .int .u32 (numTo zs j : Nat), .slice none 0 0] 184 :: Fr0)) (fun j => 4 - j) 0 (Nat.zero_le _) ⟨rfl, rfl, rfl, rfl, rfl, rfl, trivial⟩ ⟨[0, 1], by decide, rfl⟩ ?_
  rintro j hj
  refine Zb <| Za <| gr rfl (Z2 rfl rfl) (Zx (fun h22 => ?_) (fun h22 => ?_))
  · refine gA <| Zb <| Zj rfl <| Zu <| Ze <| Zb <| ZC <| Zb <| Za <| gr rfl (Z8 hs3 Tryz.underlying65 Ym rfl rfl (by omega) (by omega)) ?_
    refine gr rfl (Zh Tryz.underlying5 rfl rfl (Xb hs3 (get_part (show j < 4 by omega) hlen))) ?_
    refine gas rfl rfl <| gA <| Za <| gr rfl (Zd rfl (Xx _)) <| gr rfl (Zh Tryz.underlying136 rfl rfl (by exact Zo 0 rfl rfl)) ?_
    refine gr rfl (rd_shl32 (b := 8) rfl rfl (by omega) (Zmr hz (by omega))) ?_
    refine gm rfl rfl <| gr rfl (YH Tryz.runUnderlying5 Tryz.runUnderlying136 rfl (WS (by have := Xr hz (3 + j); omega))) ?_
    refine gr rfl (rd_or32 rfl rfl (by have := Zmr hz (k := j) (by omega); rw [Nat.shiftLeft_eq]; exact this) (by have := Xr hz (3 + j); omega)) ?_
    refine gr rfl (Zd rfl (Xx _)) <| Zl (Z7 0 W7 rfl rfl rfl rfl rfl (by rfl) (by rfl) ?_)
    refine ZU <| ZM <| Ze ?_
    rw [← Wl]
    refine Za <| gr rfl (by exact ZQ (b := 1) rfl rfl (by omega)) ?_
    refine gm rfl rfl <| ZU <| Ze ?_
    exact ZZ (j + 1) ⟨by omega, by omega⟩ ⟨rfl, rfl, rfl, rfl, rfl, rfl, trivial⟩ ⟨[0, 1], by decide, rfl⟩
  refine gA <| Zb <| Zk rfl <| Z1 <| Zr <| Zr <| ZE <| Ze <| Zb <| Zb <| ZP [0, 1] true 18 rfl <| Zc 0 rfl rfl ⟨[0, 1], by decide, rfl⟩ (Zf (Zm rfl)) ?_
  refine Zc 1 rfl rfl ⟨[0, 1], by decide, rfl⟩ (Zf (Z8 hsl Tryz.underlying65 Ym rfl rfl (by omega) (by omega))) ?_
  refine Zc 2 rfl rfl ⟨[0, 1], by decide, rfl⟩ (Zf (Zh Tryz.underlying5 rfl rfl (Xb (off := 23) hsl (Xn (Wk (show 23 < zs.length by omega)))))) ?_
  refine Zc 3 rfl rfl ⟨[0, 1], by decide, rfl⟩ (Zf (YH Tryz.runUnderlying5 Tryz.runUnderlying3 rfl (WT (by have := Xr hz 23; omega)))) ?_
  refine Zc 4 rfl rfl ⟨[0, 1], by decide, rfl⟩ (Zf (Zm rfl)) ?_
  refine Zc 5 rfl rfl ⟨[0, 1], by decide, rfl⟩ (Zf (W4 Tryz.underlying65 Ym rfl rfl (by omega) (by omega))) ?_
  refine Zc 6 rfl rfl ⟨[0, 1], by decide, rfl⟩ (YC (vf := []) (vc := []) rfl rfl Tryz.call124 (fun w1 ho => Zhz zs hz hlen a ca w1 (hsl.at ho)) (by rintro _ _ ⟨h, _⟩; exact h)) ?_
  refine Zc 7 rfl rfl ⟨[0, 1], by decide, rfl⟩ (Zf (ZX rfl rfl)) (Zx (fun h40 => ?_) (fun h40 => ?_))
  · refine Zc 8 rfl rfl ⟨[0, 1], by decide, rfl⟩ (Zf (Zm rfl)) ?_
    refine ZO 9 rfl rfl rfl rfl rfl ⟨[0, 1], by decide, rfl⟩ ?_
    refine ZO 10 rfl rfl rfl rfl rfl ⟨[0, 1], by decide, rfl⟩ ?_
    refine ZO 11 rfl rfl rfl rfl rfl ⟨[0, 1], by decide, rfl⟩ ?_
    refine Zc 12 rfl rfl ⟨[0, 1], by decide, rfl⟩ (Zf (ZB rfl rfl)) ?_
    refine Zc 13 rfl rfl ⟨[0, 1], by decide, rfl⟩ (Zf (Zm rfl)) ?_
    refine ZO 14 rfl rfl rfl rfl rfl ⟨[0, 1], by decide, rfl⟩ ?_
    refine ZO 15 rfl rfl rfl rfl rfl ⟨[0, 1], by decide, rfl⟩ ?_
    refine ZO 16 rfl rfl rfl rfl rfl ⟨[0, 1], by decide, rfl⟩ ?_
    refine ZO 17 rfl rfl rfl rfl rfl ⟨[0, 1], by decide, rfl⟩ ?_
    refine Zc 18 rfl rfl ⟨[0, 1], by decide, rfl⟩ (Zf (ZB rfl rfl)) ?_
    refine ZS (.inr ⟨[0, 1], by decide, rfl⟩) ?_
    refine Ze <| Zj rfl <| Zb <| Za <| gr rfl (ZJ rfl (fun _ => Zho)) ?_
    refine Zl (Zy 1 Z6 rfl rfl rfl rfl rfl rfl (by rfl) ?_)
    refine gas rfl rfl <| gA <| Zp <| Zg <| YJ (.inl rfl) Tryz.results107 (YL Tryz.underlying184 rfl Z6 rfl (by rfl) (ZH 1 (off := 0) (k := 3) rfl rfl)) (Xh rfl) [] (by decide) ?_
    refine .inl ⟨?_, rfl, rfl⟩
    unfold X1
    rw [decide_eq_true (show gB zs 23 ≠ Yg (zs.take 23) by omega)]; rfl
  refine Zc 8 rfl rfl ⟨[0, 1], by decide, rfl⟩ (Zf (Zm rfl)) ?_
  refine ZR 9 rfl rfl rfl rfl rfl ⟨[0, 1], by decide, rfl⟩ (Zf (Zd rfl (Y6 _))) ?_
  refine ZR 10 rfl rfl rfl rfl rfl ⟨[0, 1], by decide, rfl⟩ (Zf (Zh Tryz.underlying3 rfl rfl (by exact Zo 0 rfl rfl))) ?_
  refine ZR 11 rfl rfl rfl rfl rfl ⟨[0, 1], by decide, rfl⟩ (Zf (YW rfl rfl)) (Zx (fun h44 => ?_) (fun h44 => ?_))
  · refine Zc 12 rfl rfl ⟨[0, 1], by decide, rfl⟩ (Zf (Zq rfl rfl)) ?_
    refine Zc 13 rfl rfl ⟨[0, 1], by decide, rfl⟩ (Zf (Zm rfl)) ?_
    refine ZO 14 rfl rfl rfl rfl rfl ⟨[0, 1], by decide, rfl⟩ ?_
    refine ZO 15 rfl rfl rfl rfl rfl ⟨[0, 1], by decide, rfl⟩ ?_
    refine ZO 16 rfl rfl rfl rfl rfl ⟨[0, 1], by decide, rfl⟩ ?_
    refine ZO 17 rfl rfl rfl rfl rfl ⟨[0, 1], by decide, rfl⟩ ?_
    refine Zc 18 rfl rfl ⟨[0, 1], by decide, rfl⟩ (Zf (ZB rfl rfl)) ?_
    refine ZS (.inr ⟨[0, 1], by decide, rfl⟩) ?_
    refine Ze <| Zj rfl <| Zb <| Za <| gr rfl (ZJ rfl (fun _ => Zho)) ?_
    refine Zl (Zy 1 Z6 rfl rfl rfl rfl rfl rfl (by rfl) ?_)
    refine gas rfl rfl <| gA <| Zp <| Zg <| YJ (.inl rfl) Tryz.results107 (YL Tryz.underlying184 rfl Z6 rfl (by rfl) (ZH 1 (off := 0) (k := 3) rfl rfl)) (Xh rfl) [] (by decide) ?_
    refine .inl ⟨?_, rfl, rfl⟩
    unfold X1
    rw [decide_eq_true (show 999 < keyP zs by omega)]; simp
  refine Zc 12 rfl rfl ⟨[0, 1], by decide, rfl⟩ (Zf (Zq rfl rfl)) ?_
  refine Zc 13 rfl rfl ⟨[0, 1], by decide, rfl⟩ (Zf (Zm rfl)) ?_
  refine ZR 14 rfl rfl rfl rfl rfl ⟨[0, 1], by decide, rfl⟩ (Zf (Zm rfl)) ?_
  refine ZR 15 rfl rfl rfl rfl rfl ⟨[0, 1], by decide, rfl⟩ (Zf (Z8 hsl Tryz.underlying65 Ym rfl rfl (by omega) (by omega))) ?_
  refine ZR 16 rfl rfl rfl rfl rfl ⟨[0, 1], by decide, rfl⟩ (Zf (Zh Tryz.underlying5 rfl rfl (Xb (off := 2) hsl (Xn (Wk (show 2 < zs.length by omega)))))) ?_
  refine ZR 17 rfl rfl rfl rfl rfl ⟨[0, 1], by decide, rfl⟩ (Zf (YW rfl rfl)) (Zx (fun h50 => ?_) (fun h50 => ?_))
  · refine Zc 18 rfl rfl ⟨[0, 1], by decide, rfl⟩ (Zf (Zq rfl rfl)) ?_
    refine ZS (.inr ⟨[0, 1], by decide, rfl⟩) ?_
    refine Ze <| Zj rfl <| Zb <| Za <| gr rfl (ZJ rfl (fun _ => Zho)) ?_
    refine Zl (Zy 1 Z6 rfl rfl rfl rfl rfl rfl (by rfl) ?_)
    refine gas rfl rfl <| gA <| Zp <| Zg <| YJ (.inl rfl) Tryz.results107 (YL Tryz.underlying184 rfl Z6 rfl (by rfl) (ZH 1 (off := 0) (k := 3) rfl rfl)) (Xh rfl) [] (by decide) ?_
    refine .inl ⟨?_, rfl, rfl⟩
    unfold X1
    rw [decide_eq_true (show 16 < gB zs 2 by omega)]; simp
  refine Zc 18 rfl rfl ⟨[0, 1], by decide, rfl⟩ (Zf (Zq rfl rfl)) ?_
  refine ZS (.inr ⟨[0, 1], by decide, rfl⟩) ?_
  refine Ze <| Zk rfl <| Zu <| Ze <| Zb <| Za <| gm rfl rfl <| gm rfl rfl <| gr rfl (Z8 hsl Tryz.underlying65 Ym rfl rfl (by omega) (by omega)) ?_
  refine gr rfl (Zh Tryz.underlying5 rfl rfl (Xb (off := 2) hsl (Xn (Wk (show 2 < zs.length by omega))))) ?_
  refine gr rfl (YH Tryz.runUnderlying5 Tryz.runUnderlying3 rfl (WT (by have := Xr hz 2; omega))) ?_
  have hgood : X1 zs = false := by
    unfold X1
    rw [decide_eq_false (show ¬ (gB zs 23 ≠ Yg (zs.take 23)) by omega), decide_eq_false (show ¬ 999 < keyP zs by omega), decide_eq_false (show ¬ 16 < gB zs 2 by omega)]; rfl
  refine gr rfl (by exact ZQ (a := 7) rfl rfl (by omega)) ?_
  refine gr rfl (VI Tryz.underlying65 Ym rfl rfl rfl (by omega) (by omega) (by omega)) ?_
  simp only [Int.toNat_natCast]
  obtain ⟨hvl, hv7⟩ := val_sl hsl hlen hca (show gB zs 2 ≤ 16 by omega)
  rw [show (7 + gB zs 2) - Int.toNat 7 = (YR zs).length by rw [hvl]; show 7 + gB zs 2 - 7 = _; omega]
  refine Zl (ZD rfl (vf := []) (vc := []) rfl rfl Tryz.call39 (fun w1 ho => Xy (YR zs) (J8 a ca 7 1) (ca - 7) w1 (hv7.at ho) (by omega)) ?_)
  rintro _ _ ⟨rv, cv, rfl, rfl⟩
  refine gr rfl (Zd rfl (JG _)) <| Zl (Z7 1 ty_65 rfl rfl rfl rfl rfl (by rfl) (by rfl) ?_)
  refine gA <| Zb <| Za <| gr rfl (Zt Tryz.underlying184 rfl Z6 rfl (by exact ZH 1 (off := 0) (k := 3) rfl rfl) rfl) ?_
  refine Zl (Zy 2 Z6 rfl rfl rfl rfl rfl rfl (by rfl) ?_)
  refine gas rfl rfl <| gA <| Zp <| YJ (.inl rfl) Tryz.results107 (YL Tryz.underlying184 rfl Z6 rfl (by rfl) (ZH 2 (off := 0) (k := 3) rfl rfl)) (Xh rfl) [0] (by decide) ?_
  exact .inr ⟨hgood, rv, cv, by rw [show j = 4 by omega]; rfl, rfl⟩
namespace Iv
def Wb (f : Fl) (id : Nat) : Int := if f.down then 9 else if id ≠ f.st then 9 else 0
theorem Zgk : ∀ n, Yg (List.replicate n 255) = 0
  | 0 => rfl
  | n + 1 => by rw [List.replicate_succ, Yg, Zgk n]; rfl
end Iv
theorem Zdj (f : Fl) (hf : f.Ok) (bs bf : Nat) (rb : Option Nat) (cb : Nat) (rp : Option Nat) (cp : Nat) (id bm num : Nat) (free : Int) (w0 : World) (hs : Cells w0 ⟨bs, 0, none⟩ [.bool true, .pointer (some ⟨bf, 0, none⟩), natV id, .map (some bm), .int .u32 (num : Nat), .int .i64 free]) (hc : Cells w0 ⟨bf, 0, none⟩ (f.cells rb cb rp cp)) : Sp Tryz.prog 184 [.pointer (some ⟨bs, 0, none⟩)] w0 [] (RV (.int .i64 (Wb f id))) := by
  refine ZA Tryz.func184 rfl Tryz.ntmps184 rfl (Own.refl _) ?_
  simp only [ZT]
  refine Zb <| Za <| gas rfl rfl <| gA <| Zb <| ZC <| Zb <| Za <| gm rfl rfl <| gr rfl (XH eg_33 Tryz.underlying33 rfl rfl) <| gm rfl rfl <| Zi rfl rfl <| Zn rfl (Zm rfl) <| Zi rfl rfl <| Zn rfl (ZI rfl) <| Zi rfl rfl <| Zn rfl (Zd rfl (Zeh _)) <| Zi rfl rfl (Zn rfl (Zh Tryz.underlying4 rfl rfl (Yd (j := 0) hs (by simp) rfl)) ?_)
  refine Zi rfl rfl <| Zn rfl (rd_not rfl) <| gr rfl (Zq rfl rfl) <| gas rfl rfl <| gA <| Zk rfl <| Zb <| ZP [] true 21 rfl <| Zc 0 rfl rfl ⟨[], by decide, rfl⟩ (Zf (Zm rfl)) ?_
  refine Zc 1 rfl rfl ⟨[], by decide, rfl⟩ (Zf (ZI rfl)) ?_
  refine Zc 2 rfl rfl ⟨[], by decide, rfl⟩ (Zf (Zd rfl (Xp _))) ?_
  refine Zc 3 rfl rfl ⟨[], by decide, rfl⟩ (Zf (Zh Tryz.underlying32 rfl rfl (Yd (j := 1) hs (by simp) rfl))) ?_
  refine Zc 4 rfl rfl ⟨[], by decide, rfl⟩ (Zf (ZI rfl)) ?_
  refine Zc 5 rfl rfl ⟨[], by decide, rfl⟩ (Zf (Zd rfl (XJ _))) ?_
  refine Zc 6 rfl rfl ⟨[], by decide, rfl⟩ (Zf (Zh Tryz.underlying4 rfl rfl (Yd (j := 4) hc (by simp) rfl))) ?_
  refine Z3 (fun h20 => ?_) (fun h20 => ?_)
  · refine Zc 7 rfl rfl ⟨[], by decide, rfl⟩ (Zf (Zm rfl)) ?_
    refine ZO 8 rfl rfl rfl rfl rfl ⟨[], by decide, rfl⟩ ?_
    refine ZO 9 rfl rfl rfl rfl rfl ⟨[], by decide, rfl⟩ ?_
    refine ZO 10 rfl rfl rfl rfl rfl ⟨[], by decide, rfl⟩ ?_
    refine ZO 11 rfl rfl rfl rfl rfl ⟨[], by decide, rfl⟩ ?_
    refine ZO 12 rfl rfl rfl rfl rfl ⟨[], by decide, rfl⟩ ?_
    refine ZO 13 rfl rfl rfl rfl rfl ⟨[], by decide, rfl⟩ ?_
    refine ZO 14 rfl rfl rfl rfl rfl ⟨[], by decide, rfl⟩ ?_
    refine ZO 15 rfl rfl rfl rfl rfl ⟨[], by decide, rfl⟩ ?_
    refine ZO 16 rfl rfl rfl rfl rfl ⟨[], by decide, rfl⟩ ?_
    refine ZO 17 rfl rfl rfl rfl rfl ⟨[], by decide, rfl⟩ ?_
    refine ZO 18 rfl rfl rfl rfl rfl ⟨[], by decide, rfl⟩ ?_
    refine ZO 19 rfl rfl rfl rfl rfl ⟨[], by decide, rfl⟩ ?_
    refine Zc 20 rfl rfl ⟨[], by decide, rfl⟩ (Zf (ZB rfl rfl)) ?_
    refine Zc 21 rfl rfl ⟨[], by decide, rfl⟩ (Zf (ZV rfl)) ?_
    refine ZS (.inr ⟨[], by decide, rfl⟩) ?_
    refine Ze <| Zj rfl <| Zb <| Za <| gas rfl rfl <| gA <| Zp <| Zw <| Zg <| Zz (.inl rfl) Tryz.results184 rfl [] (by decide) ?_
    refine ⟨congrArg (Value.int .i64) ?_, rfl⟩
    unfold Wb
    rw [if_pos h20]
  refine Zc 7 rfl rfl ⟨[], by decide, rfl⟩ (Zf (Zm rfl)) ?_
  refine ZR 8 rfl rfl rfl rfl rfl ⟨[], by decide, rfl⟩ (Zf (Zm rfl)) ?_
  refine ZR 9 rfl rfl rfl rfl rfl ⟨[], by decide, rfl⟩ (Zf (ZI rfl)) ?_
  refine ZR 10 rfl rfl rfl rfl rfl ⟨[], by decide, rfl⟩ (Zf (Zd rfl (Zjb _))) ?_
  refine ZR 11 rfl rfl rfl rfl rfl ⟨[], by decide, rfl⟩ (Zf (Zh Tryz.underlying3 rfl rfl (Yd (j := 2) hs (by simp) rfl))) ?_
  refine ZR 12 rfl rfl rfl rfl rfl ⟨[], by decide, rfl⟩ (Zf (Zm rfl)) ?_
  refine ZR 13 rfl rfl rfl rfl rfl ⟨[], by decide, rfl⟩ (Zf (ZI rfl)) ?_
  refine ZR 14 rfl rfl rfl rfl rfl ⟨[], by decide, rfl⟩ (Zf (Zd rfl (Xp _))) ?_
  refine ZR 15 rfl rfl rfl rfl rfl ⟨[], by decide, rfl⟩ (Zf (Zh Tryz.underlying32 rfl rfl (Yd (j := 1) hs (by simp) rfl))) ?_
  refine ZR 16 rfl rfl rfl rfl rfl ⟨[], by decide, rfl⟩ (Zf (ZI rfl)) ?_
  refine ZR 17 rfl rfl rfl rfl rfl ⟨[], by decide, rfl⟩ (Zf (Zd rfl (Zbj _))) ?_
  refine ZR 18 rfl rfl rfl rfl rfl ⟨[], by decide, rfl⟩ (Zf (Zh Tryz.underlying3 rfl rfl (Yd (j := 7) hc (by simp) rfl))) ?_
  refine ZR 19 rfl rfl rfl rfl rfl ⟨[], by decide, rfl⟩ (Zf (ZX rfl rfl)) (Zx (fun h33 => ?_) (fun h33 => ?_))
  · refine Zc 20 rfl rfl ⟨[], by decide, rfl⟩ (Zf (Zq rfl rfl)) ?_
    refine Zc 21 rfl rfl ⟨[], by decide, rfl⟩ (Zf (ZV rfl)) ?_
    refine ZS (.inr ⟨[], by decide, rfl⟩) ?_
    refine Ze <| Zj rfl <| Zb <| Za <| gas rfl rfl <| gA <| Zp <| Zw <| Zg <| Zz (.inl rfl) Tryz.results184 rfl [] (by decide) ?_
    refine ⟨congrArg (Value.int .i64) ?_, rfl⟩
    unfold Wb
    rw [if_neg (by rw [h20]; decide), if_pos (by omega)]
  refine Zc 20 rfl rfl ⟨[], by decide, rfl⟩ (Zf (Zq rfl rfl)) ?_
  refine Zc 21 rfl rfl ⟨[], by decide, rfl⟩ (Zf (ZV rfl)) ?_
  refine ZS (.inr ⟨[], by decide, rfl⟩) ?_
  refine Ze <| Zk rfl <| Zu <| ZM <| Ze <| Zb <| Za <| gas rfl rfl <| gA <| Zp <| Zz (.inl rfl) Tryz.results184 rfl [] (by decide) ?_
  refine ⟨congrArg (Value.int .i64) ?_, rfl⟩
  unfold Wb
  rw [if_neg (by rw [h20]; decide), if_neg (by omega)]
theorem most_q (f : Fl) (hf : f.Ok) (bs bf : Nat) (rb : Option Nat) (cb : Nat) (rp : Option Nat) (cp : Nat) (id bm num : Nat) (free : Int) (w0 : World) (hs : Cells w0 ⟨bs, 0, none⟩ [.bool true, .pointer (some ⟨bf, 0, none⟩), natV id, .map (some bm), .int .u32 (num : Nat), .int .i64 free]) (hc : Cells w0 ⟨bf, 0, none⟩ (f.cells rb cb rp cp)) : Sp Tryz.prog 183 [.pointer (some ⟨bs, 0, none⟩)] w0 [] (RV (natV (10 * (f.b.length / 256 - 2)))) := by
  have hbl := hf.hi
  have hbl0 := hf.lo
  refine ZA Tryz.func183 rfl Tryz.ntmps183 rfl (Own.refl _) ?_
  simp only [ZT]
  refine Zb <| Za <| gas rfl rfl <| gA <| Zb <| Za <| gm rfl rfl <| gnc rfl rfl <| gr rfl (Zd rfl (Xp _)) <| gr rfl (Zh Tryz.underlying32 rfl rfl (Yd (j := 1) hs (by simp) rfl)) ?_
  refine Zl (ZD rfl (vf := []) (vc := []) rfl rfl Tryz.call41 (fun w1 ho => VT f hf bf rb cb rp cp w1 (hc.at ho)) ?_)
  rintro _ _ ⟨rfl, rfl⟩
  refine gr rfl (by exact Za5 (b := 2) rfl rfl (by omega) (by omega)) ?_
  refine gr rfl (by exact XE (a := 10) rfl rfl (by omega)) ?_
  refine gas rfl rfl <| gA <| Zp <| Zz (.inl rfl) Tryz.results183 rfl [] (by decide) ?_
  exact ⟨rfl, rfl⟩
theorem Zew (zs : List Nat) (hz : ∀ z ∈ zs, z < 256) (hlen : zs.length = 24) (a : Option Addr) (ca : Nat) (hca : 24 ≤ ca) (w0 : World) (hsl : OldSl w0 [] a 24 1 (zs.map u8V)) (hb : X1 zs = true) : Sp Tryz.prog 107 [.slice a 24 ca] w0 [] (RV (.tuple #[.agg #[.int .i64 0, .int .u32 0, .slice none 0 0], .bool false])) := by
  refine (Zgj zs hz hlen a ca hca w0 hsl).mono ?_
  rintro v L (⟨_, rfl, rfl⟩ | ⟨h, _⟩)
  · exact ⟨rfl, rfl⟩
  · rw [hb] at h; cases h
namespace Iv
section
variable {dm : List Deferred} {P : Program} {n : Nat} {e : Env} {w0 : World} {S : List Nat} {l : List HL} {dst : Option Tmp} {ty : TypeId} {pos : String} {aft : Array Edge} {gd : Option (Nat × Bool)}
theorem Xj {t E : TypeId} {z : Value} {bytes : Nat} {x y : Operand} {g m cap : Nat} {k : IntKind} {i : Int} (hu : P.underlying t = some (.slice E)) (ht : TyF P E z 1 bytes) (hx : e.ev x = some (.slice (some ⟨g, 0, none⟩) m cap)) (hy : e.ev y = some (.int k i)) (h0 : 0 ≤ i) (h1 : i < m) :
    Rd P dm n e w0 S l ⟨dst, .indexAddr t x y, ty, pos, aft, gd⟩ (.pointer (some ⟨g, i.toNat, none⟩)) := by
  have h := Zb4 (dm := dm) (dst := dst) (ty := ty) (pos := pos) (aft := aft) (gd := gd) (n := n) (w0 := w0) (S := S) (l := l) hu ht hx hy h0 h1
  rwa [Addr.add_lit, Nat.zero_add] at h
end
theorem X3 (n : Nat) : IntKind.u8.wrap (n : Int) = ((n % 256 : Nat) : Int) := by
  unfold IntKind.wrap
  simp only [IntKind.signed, IntKind.bits, Bool.false_and, if_false, Bool.false_eq_true]
  omega
def pk1 (key len : Nat) : List Nat := (((List.replicate 24 255).set 0 (key >>> 8 % 256)).set 1 (key % 256)).set 2 (len % 256)
def pk2 (num : Nat) (b : List Nat) (n : Nat) : List Nat := (List.range n).foldl (fun b i => b.set (3 + i) ((num >>> (24 - 8 * i)) % 256)) b
def pk3 (vs b : List Nat) : List Nat := b.take 7 ++ vs ++ b.drop (7 + vs.length)
def packP (key num : Nat) (vs : List Nat) : List Nat := (pk3 vs (pk2 num (pk1 key vs.length) 4)).set 23 (Yg ((pk3 vs (pk2 num (pk1 key vs.length) 4)).take 23))
theorem JM (num : Nat) (b : List Nat) (n : Nat) : pk2 num b (n + 1) = (pk2 num b n).set (3 + n) ((num >>> (24 - 8 * n)) % 256) := by unfold pk2; rw [List.range_succ, List.foldl_append]; rfl
theorem Vv (num : Nat) (b : List Nat) : ∀ n, (pk2 num b n).length = b.length
  | 0 => rfl
  | n + 1 => by rw [JM, List.length_set, Vv num b n]
theorem Jl (key len : Nat) : (pk1 key len).length = 24 := by unfold pk1; simp
theorem Zdk {vs b : List Nat} (hb : b.length = 24) (hv : vs.length ≤ 16) : (pk3 vs b).length = 24 := by unfold pk3; simp; omega
theorem Xe {key num : Nat} {vs : List Nat} (hv : vs.length ≤ 16) : (packP key num vs).length = 24 := by unfold packP; rw [List.length_set, Zdk (by rw [Vv, Jl]) hv]
theorem Zlm (key len : Nat) (hk : key < 65536) : ∀ x ∈ pk1 key len, x < 256 := by
  unfold pk1
  refine JK (JK (JK (fun x hx => by rw [List.eq_of_mem_replicate hx]; decide) ?_) (Nat.mod_lt _ (by decide))) (Nat.mod_lt _ (by decide))
  exact Nat.mod_lt _ (by decide)
theorem Zh0 (num : Nat) {b : List Nat} (h : ∀ x ∈ b, x < 256) : ∀ n, ∀ x ∈ pk2 num b n, x < 256
  | 0 => h
  | n + 1 => by rw [JM]; exact JK (Zh0 num h n) (Nat.mod_lt _ (by decide))
theorem pk3_lt {vs b : List Nat} (h : ∀ x ∈ b, x < 256) (hv : ∀ x ∈ vs, x < 256) : ∀ x ∈ pk3 vs b, x < 256 := fun x hx => by
  unfold pk3 at hx
  rcases List.mem_append.1 hx with hx | hx
  · rcases List.mem_append.1 hx with hx | hx
    · exact h x (List.mem_of_mem_take hx)
    · exact hv x hx
  · exact h x (List.mem_of_mem_drop hx)
end Iv
theorem pack_ok (key num : Nat) (hk : key < 65536) (hnum : num < 4294967296) (vs : List Nat) (hvs : ∀ z ∈ vs, z < 256) (hv : vs.length ≤ 16) (ad : Addr) (ca : Nat) (w0 : World) (hsl : OldSl w0 [] (some ad) vs.length 1 (vs.map u8V)) : Sp Tryz.prog 190 [.agg #[natV key, .int .u32 (num : Int), .slice (some ad) vs.length ca]] w0 [] (fun v L => ∃ rr cr : Nat, v = .slice (some ⟨rr, 0, none⟩) 24 24 ∧ L = [.row 5 1 (some rr) 24 cr ((packP key num vs).map u8V)]) := by
  refine ZA Tryz.func190 rfl Tryz.ntmps190 rfl (Own.refl _) ?_
  simp only [ZT]
  refine Zb <| Za <| Zl (Yc rfl rfl rfl (fun b1 => ?_))
  refine gas rfl rfl <| gA <| Zb <| Za <| Zl (ZK (sz := 1) rfl rfl (fun _ => VQ _) rfl rfl (fun b5 => ?_))
  refine Zl (ZD rfl (vf := []) (vc := []) rfl rfl Tryz.call76 (fun w2 ho => VR 255 24 (rowA (some b5)) 1 w2 (ho.rowSl 0 rfl) (by omega)) ?_)
  rintro _ _ ⟨rr, cr, rfl, rfl⟩
  refine gas rfl rfl <| gA <| Zb <| ZP [1, 2] false 19 rfl <| Zc 0 rfl rfl ⟨[1, 2], by decide, rfl⟩ (Zf (Zm rfl)) ?_
  refine Zc 1 rfl rfl ⟨[1, 2], by decide, rfl⟩ (Zf (Zm rfl)) ?_
  refine Zc 2 rfl rfl ⟨[1, 2], by decide, rfl⟩ (Zf (Zm rfl)) ?_
  refine Zc 3 rfl rfl ⟨[1, 2], by decide, rfl⟩ (Zf (Zd rfl (Y6 _))) ?_
  refine Zc 4 rfl rfl ⟨[1, 2], by decide, rfl⟩ (Zf (Zh Tryz.underlying3 rfl rfl (by exact Zo 1 rfl rfl))) ?_
  refine Zc 5 rfl rfl ⟨[1, 2], by decide, rfl⟩ (Zf (rd_shr (b := 8) rfl rfl (by omega))) ?_
  refine Zc 6 rfl rfl ⟨[1, 2], by decide, rfl⟩ (Zf (YH Tryz.runUnderlying3 Tryz.runUnderlying5 rfl (X3 _))) ?_
  refine Zc 7 rfl rfl ⟨[1, 2], by decide, rfl⟩ (Zf (Zd rfl (Y6 _))) ?_
  refine Zc 8 rfl rfl ⟨[1, 2], by decide, rfl⟩ (Zf (Zh Tryz.underlying3 rfl rfl (by exact Zo 1 rfl rfl))) ?_
  refine Zc 9 rfl rfl ⟨[1, 2], by decide, rfl⟩ (Zf (YH Tryz.runUnderlying3 Tryz.runUnderlying5 rfl (X3 _))) ?_
  refine Zc 10 rfl rfl ⟨[1, 2], by decide, rfl⟩ (Zf (Zd rfl (JG _))) ?_
  refine Zc 11 rfl rfl ⟨[1, 2], by decide, rfl⟩ (Zf (Zh Tryz.underlying65 rfl rfl (by exact Zo 1 rfl rfl))) ?_
  refine Zc 12 rfl rfl ⟨[1, 2], by decide, rfl⟩ (Zf (ZF Tryz.underlying65 rfl)) ?_
  refine Zc 13 rfl rfl ⟨[1, 2], by decide, rfl⟩ (Zf (YH Tryz.runUnderlying3 Tryz.runUnderlying5 rfl (X3 _))) ?_
  refine Zc 14 rfl rfl ⟨[1, 2], by decide, rfl⟩ (Zf (Xj Tryz.underlying65 Ym rfl rfl (by omega) (by omega))) ?_
  refine ZG 15 rfl (.inr ⟨[1, 2], by decide, rfl⟩) (Yi 0 Ym rfl rfl rfl rfl (by simp) (Vt (List.replicate 24 255) 0 _) (by rfl) ?_)
  refine Zc 16 rfl rfl ⟨[1, 2], by decide, rfl⟩ (Zf (Xj Tryz.underlying65 Ym rfl rfl (by omega) (by omega))) ?_
  refine ZG 17 rfl (.inr ⟨[1, 2], by decide, rfl⟩) (Yi 0 Ym rfl rfl rfl rfl (by simp) (Vt _ 1 _) (by rfl) ?_)
  refine Zc 18 rfl rfl ⟨[1, 2], by decide, rfl⟩ (Zf (Xj Tryz.underlying65 Ym rfl rfl (by omega) (by omega))) ?_
  refine ZG 19 rfl (.inr ⟨[1, 2], by decide, rfl⟩) (Yi 0 Ym rfl rfl rfl rfl (by simp) (Vt _ 2 _) (by rfl) ?_)
  refine ZS (.inl (by kernel_rfl)) ?_
  refine Ze <| Zb <| Zb <| Za <| gm rfl rfl <| gA <| ZC <| Z0 (ι := Nat) [(1, _), (3, _)] [_, _] (fun j => j ≤ 4) (fun j Fr0 => ((24, natV j) :: Fr0)) (fun j Fr0 => (.row 5 1 (some rr) 24 cr ((pk2 num (pk1 key vs.length) j).map u8V) :: Fr0)) (fun j => 4 - j) 0 (Nat.zero_le _) ⟨rfl, rfl, rfl, trivial⟩ ⟨[0, 1, 2], by decide, rfl⟩ ?_
  rintro j hj
  have hj24 : (pk2 num (pk1 key vs.length) j).length = 24 := by rw [Vv, Jl]
  refine Zb <| Za <| gr rfl (Z2 rfl rfl) (Zx (fun h25 => ?_) (fun h25 => ?_))
  · refine gA <| Zb <| Zj rfl <| Zu <| Ze <| Zb <| ZC <| Zb <| Za <| gm rfl rfl <| gas rfl rfl <| gA <| Za <| gm rfl rfl <| gm rfl rfl <| gr rfl (by exact ZQ (a := 3) rfl rfl (by omega)) ?_
    refine gr rfl (Zd rfl (Xx _)) <| gr rfl (Zh Tryz.underlying136 rfl rfl (by exact Zo 2 rfl rfl)) ?_
    refine gm rfl rfl <| gr rfl (by exact XE (a := 8) rfl rfl (by omega)) ?_
    refine gr rfl (by exact Za5 (a := 24) rfl rfl (by omega) (by omega)) ?_
    refine gr rfl (Zis (b := 24 - 8 * j) rfl rfl hnum (by omega)) ?_
    refine gr rfl (YH Tryz.runUnderlying136 Tryz.runUnderlying5 rfl (X3 _)) <| gr rfl (Xj Tryz.underlying65 Ym rfl rfl (by omega) (by omega)) ?_
    refine Zl (Yi 0 Ym rfl rfl rfl rfl (by simp; omega) (Vt _ (3 + j) _) (by rfl) ?_)
    refine ZU <| ZM <| Ze ?_
    rw [← JM]
    refine Za <| gr rfl (by exact ZQ (b := 1) rfl rfl (by omega)) ?_
    refine gm rfl rfl <| ZU <| Ze ?_
    exact ZZ (j + 1) ⟨by omega, by omega⟩ ⟨rfl, rfl, rfl, trivial⟩ ⟨[0, 1, 2], by decide, rfl⟩
  refine gA <| Zb <| Zk rfl <| Z1 <| Zr <| Zr <| ZE <| Ze <| Zb ?_
  obtain rfl : j = 4 := by omega
  have hp3 : (pk3 vs (pk2 num (pk1 key vs.length) 4)).length = 24 := Zdk hj24 hv
  have hp3b := pk3_lt (Zh0 num (Zlm key vs.length hk) 4) hvs
  have hzz := JL ((pk3 vs (pk2 num (pk1 key vs.length) 4)).take 23)
  rw [List.length_take, hp3] at hzz
  refine ZP [1, 2] true 4 rfl <| Zc 0 rfl rfl ⟨[1, 2], by decide, rfl⟩ (Zf (Zm rfl)) ?_
  refine Zc 1 rfl rfl ⟨[1, 2], by decide, rfl⟩ (Zf (Jc Tryz.underlying65 Ym rfl rfl (by omega) (by omega))) ?_
  refine Zc 2 rfl rfl ⟨[1, 2], by decide, rfl⟩ (Zf (Zd rfl (JG _))) ?_
  refine Zc 3 rfl rfl ⟨[1, 2], by decide, rfl⟩ (Zf (Zh Tryz.underlying65 rfl rfl (by exact Zo 1 rfl rfl))) ?_
  rw [show J8 (some ⟨rr, 0, none⟩) 24 (Int.toNat 7) 1 = some ⟨rr, 7, none⟩ from JI (by decide)]
  refine ZG 4 rfl (.inr ⟨[1, 2], by decide, rfl⟩) (XZ 0 7 (cs := vs.map u8V) (sLen := vs.length) Tryz.underlying65 Ym rfl rfl rfl rfl (by rw [List.length_map]; exact (Nat.min_eq_left (by omega)).symm) (fun w ho => (hsl.at ho).cells) (by rw [List.length_map]; omega) (Zhe vs) (by rfl) ?_)
  rw [Zlh, show (pk2 num (pk1 key vs.length) 4).take 7 ++ vs ++ (pk2 num (pk1 key vs.length) 4).drop (7 + vs.length) = pk3 vs (pk2 num (pk1 key vs.length) 4) from rfl]
  refine ZS (.inr ⟨[1, 2], by decide, rfl⟩) ?_
  refine Ze <| Zb <| Za <| gm rfl rfl <| gm rfl rfl <| gr rfl (W4 Tryz.underlying65 Ym rfl rfl (by omega) (by omega)) ?_
  refine Zl (ZD rfl (vf := []) (vc := []) rfl rfl Tryz.call124 (fun w1 ho => Zhz (pk3 vs (pk2 num (pk1 key vs.length) 4)) hp3b hp3 (some ⟨rr, 0, none⟩) 24 w1 (ho.rowSl 0 rfl)) ?_)
  rintro _ _ ⟨rfl, rfl⟩
  refine gr rfl (YH Tryz.runUnderlying3 Tryz.runUnderlying5 rfl (Vk (by omega))) ?_
  refine gr rfl (Xj Tryz.underlying65 Ym rfl rfl (by omega) (by omega)) ?_
  refine Zl (Yi 0 Ym rfl rfl rfl rfl (by rw [List.length_map, hp3]; decide) (Vt _ 23 _) (by rfl) ?_)
  refine gA <| Zb <| Za <| gm rfl rfl <| gas rfl rfl <| gA <| Zp <| Zz (.inl rfl) Tryz.results190 rfl [0] (by decide) ?_
  exact ⟨rr, cr, rfl, rfl⟩
end Go.Proofs.YthcbcdjkfefnlaaGreatDoor
namespace Go.Proofs.YthcbcdjkfefnlaaGreatDoor
open Go.Gv
open Go.RowKit
namespace Iv
theorem Jm {w0 w : World} {S : List Nat} {l : List HL} (ho : Own w0 S w l) (i : Nat) (ic : List Nat) {E : TypeId} {sz : Nat} {r : Option Nat} {m cap : Nat} {xs : List Value} (hi : l[i]? = some (.row E sz r m cap xs)) (hn : i ∉ ic) : OldSl w ((pick ic l).filterMap HL.block) (rowA r) m sz xs := by
  have h := ho.rowSl i hi
  refine ⟨h.len, h.isSome, h.cells, fun hm hb => ?_⟩
  have h2 := h.isSome hm
  cases r with
  | none => cases h2
  | some g =>
    obtain ⟨y, hy, hyb⟩ := List.mem_filterMap.1 hb
    simp only [pick, List.mem_filterMap] at hy
    obtain ⟨j, hj, hjy⟩ := hy
    have := X2 ho.nodup hi hjy (b := g) rfl hyb
    subst this
    exact hn hj
theorem Zar (f : Fl) : (flFails f).st = f.st ∧ (flFails f).pr = f.pr ∧ (flFails f).er = f.er := by
  unfold flFails
  split
  · exact ⟨rfl, rfl, rfl⟩
  · split <;> exact ⟨rfl, rfl, rfl⟩
theorem Zbs {f : Fl} (h0 : -1 ≤ f.left) (h1 : f.left ≤ 9223372036854775807) : -1 ≤ (flFails f).left ∧ (flFails f).left ≤ 9223372036854775807 := by
  unfold flFails
  split
  · exact ⟨h0, h1⟩
  · split
    · exact ⟨by simp only; omega, by simp only; omega⟩
    · exact ⟨h0, h1⟩
theorem Zex {f : Fl} (h : f.left = -1) : (flFails f).left = -1 ∧ (flFails f).down = false := by
  unfold flFails
  rw [if_neg (by omega), if_neg (by omega)]
  exact ⟨h, rfl⟩
theorem prog_ok {f : Fl} (hf : f.Ok) (hp : f.pr + 1 < 4611686018427387904) {u : Nat} (hu : u < 256) (at_ : Int) : (Yp f at_ u).1.Ok ∧ (Yp f at_ u).1.pr ≤ f.pr + 1 ∧ (Yp f at_ u).1.b.length = f.b.length ∧ (Yp f at_ u).1.picks.length = f.picks.length ∧ (Yp f at_ u).1.st = f.st := by
  unfold Yp
  split
  · exact ⟨hf, Nat.le_succ _, rfl, rfl, rfl⟩
  · obtain ⟨s1, s2, s3⟩ := Zar { f with pr := f.pr + 1 }
    obtain ⟨l0, l1⟩ := Zbs (f := { f with pr := f.pr + 1 }) hf.l0 hf.l1
    have hpk := Wy { f with pr := f.pr + 1 }
    have hst := hf.st
    have her := hf.er
    have hgb := Xr hf.bs at_.toNat
    have hgp := Xr hf.ps 0
    unfold XF
    split
    · refine ⟨⟨JK hf.bs (Nat.lt_of_le_of_lt Nat.and_le_left hgb), by rw [hpk]; exact hf.ps, by simp only [List.length_set]; exact hf.len, by simp only [List.length_set]; exact hf.lo, by simp only [List.length_set]; exact hf.hi, by rw [hpk]; exact hf.pl, ?_, ?_, ?_, l0, l1⟩, ?_, by simp only [List.length_set], by rw [hpk], s1⟩
      · simp only [s2]; exact hp
      · simp only [s3]; exact her
      · simp only [s1]; exact hst
      · simp only [s2]; exact Nat.le_refl _
    · refine ⟨⟨JK hf.bs (Nat.lt_of_le_of_lt Nat.and_le_left hgb), by rw [hpk]; exact hf.ps, by simp only [List.length_set]; exact hf.len, by simp only [List.length_set]; exact hf.lo, by simp only [List.length_set]; exact hf.hi, by rw [hpk]; exact hf.pl, ?_, ?_, ?_, l0, l1⟩, ?_, by simp only [List.length_set], by rw [hpk], s1⟩
      · simp only [s2]; exact hp
      · simp only [s3]; exact her
      · simp only [s1]; exact hst
      · simp only [s2]; exact Nat.le_refl _
theorem prog_no {f : Fl} (hl : f.left = -1) (hd : f.down = false) {k u : Nat} (hk : k < f.b.length) : (Yp f (k : Int) u).2 = 0 ∧ (Yp f (k : Int) u).1.left = -1 ∧ (Yp f (k : Int) u).1.down = false ∧ (Yp f (k : Int) u).1.b = f.b.set k (gB f.b k &&& u) := by
  have hb : Yx f (k : Int) f.b.length = 0 := by unfold Yx; rw [if_neg (by omega), if_neg (by omega), if_neg (by rw [hd]; decide)]
  obtain ⟨n1, n2⟩ := Zex (f := { f with pr := f.pr + 1 }) hl
  unfold Yp
  rw [if_neg (by rw [hb]; decide), Int.toNat_natCast]
  unfold XF
  rw [if_pos (by rw [n2]; rfl)]
  exact ⟨rfl, n1, n2, rfl⟩
def Jn (o : Nat) (bs : List Nat) (s : Fl × Int) (i : Nat) : Fl × Int := if s.2 ≠ 0 then s else if gB bs i = 255 then s else Yp s.1 ((o + i : Nat) : Int) (gB bs i)
def Xm (f : Fl) (o : Nat) (bs : List Nat) (k : Nat) : Fl × Int := (List.range k).foldl (Jn o bs) (f, 0)
def ZW (f : Fl) (o : Nat) (bs : List Nat) : Fl × Int := Xm f o bs bs.length
theorem Jo (f : Fl) (o : Nat) (bs : List Nat) (k : Nat) : Xm f o bs (k + 1) = Jn o bs (Xm f o bs k) k := by unfold Xm; rw [List.range_succ, List.foldl_append]; rfl
theorem Zms {f : Fl} {o : Nat} {bs : List Nat} {k : Nat} (h : (Xm f o bs k).2 ≠ 0) : ∀ q, Xm f o bs (k + q) = Xm f o bs k
  | 0 => rfl
  | q + 1 => by
    rw [show k + (q + 1) = k + q + 1 by omega, Jo, Zms h q]
    unfold Jn
    rw [if_pos h]
theorem wr_no {f : Fl} (hl : f.left = -1) (hd : f.down = false) {o : Nat} {bs : List Nat} : ∀ k, o + k ≤ f.b.length → (Xm f o bs k).2 = 0 ∧ (Xm f o bs k).1.left = -1 ∧ (Xm f o bs k).1.down = false ∧ (Xm f o bs k).1.b.length = f.b.length
  | 0, _ => ⟨rfl, hl, hd, rfl⟩
  | k + 1, h => by
    obtain ⟨a, b, c, d⟩ := wr_no hl hd (o := o) (bs := bs) k (by omega)
    rw [Jo]
    unfold Jn
    rw [if_neg (by rw [a]; decide)]
    split
    · exact ⟨a, b, c, d⟩
    · obtain ⟨e1, e2, e3, e4⟩ := prog_no (f := (Xm f o bs k).1) b c (k := o + k) (u := gB bs k) (by omega)
      exact ⟨e1, e2, e3, by rw [e4, List.length_set, d]⟩
theorem VU {f : Fl} (hf : f.Ok) {o : Nat} {bs : List Nat} (hb : ∀ z ∈ bs, z < 256) : ∀ k, f.pr + k < 4611686018427387904 → (Xm f o bs k).1.Ok ∧ (Xm f o bs k).1.pr ≤ f.pr + k ∧ (Xm f o bs k).1.b.length = f.b.length ∧ (Xm f o bs k).1.picks.length = f.picks.length ∧ (Xm f o bs k).1.st = f.st
  | 0, _ => ⟨hf, Nat.le_refl _, rfl, rfl, rfl⟩
  | k + 1, h => by
    obtain ⟨a, b, c, d, e⟩ := VU hf (o := o) hb k (by omega)
    rw [Jo]
    unfold Jn
    split
    · exact ⟨a, by omega, c, d, e⟩
    · split
      · exact ⟨a, by omega, c, d, e⟩
      · obtain ⟨p1, p2, p3, p4, p5⟩ := prog_ok a (by omega) (Xr hb k) ((o + k : Nat) : Int)
        exact ⟨p1, by omega, by rw [p3, c], by rw [p4, d], by rw [p5, e]⟩
end Iv
end Go.Proofs.YthcbcdjkfefnlaaGreatDoor
namespace Go.Proofs.YthcbcdjkfefnlaaGreatDoor
open Go.Gv
open Go.RowKit
open Iv
theorem Wc (f : Fl) (hf : f.Ok) (bs bf : Nat) (rb : Option Nat) (cb : Nat) (rp : Option Nat) (cp : Nat) (id bm num : Nat) (free : Int) (S : List Nat) (w0 : World) (hown : Own w0 S w0 (.blk bs [.bool true, .pointer (some ⟨bf, 0, none⟩), natV id, .map (some bm), .int .u32 (num : Nat), .int .i64 free] 138 :: FlH bf rb cb rp cp f)) (hpr : f.pr + 24 < 4611686018427387904) (bk sl : Nat) (hbk : bk < 64) (hsl10 : sl < 10) (zs : List Nat) (hzs : ∀ z ∈ zs, z < 256) (hz24 : zs.length = 24) (a : Option Addr) (ca : Nat) (hsl : OldSl w0 S a 24 1 (zs.map u8V)) : Sp Tryz.prog 189 [.pointer (some ⟨bs, 0, none⟩), .agg #[natV bk, natV sl], .slice a 24 ca] w0 S (fun v L => v = .int .i64 (ZW f (bk * 256 + sl * 24) zs).2 ∧ L = .blk bs [.bool true, .pointer (some ⟨bf, 0, none⟩), natV id, .map (some bm), .int .u32 (num : Nat), .int .i64 free] 138 :: FlH bf rb cb rp cp (ZW f (bk * 256 + sl * 24) zs).1) := by
  have hbl := hf.hi
  refine ZA Tryz.func189 rfl Tryz.ntmps189 rfl hown ?_
  simp only [ZT]
  refine Zb <| Za <| Zl (Yc rfl rfl rfl (fun b4 => ?_))
  refine gas rfl rfl <| gA <| Zb <| Zb <| Za <| gm rfl rfl <| gr rfl (ZF Tryz.underlying65 rfl) <| gm rfl rfl <| gA <| ZC <| Z0 (ι := Nat × Fl) [(0, _), (4, _), (10, _), (11, _)] [_, _] (fun j => j.1 ≤ 24 ∧ Xm f (bk * 256 + sl * 24) zs j.1 = (j.2, 0)) (fun j Fr0 => ((12, natV j.1) :: Fr0)) (fun j Fr0 => (.blk bf (j.2.cells rb cb rp cp) 115 :: .row 5 1 rb j.2.b.length cb (j.2.b.map u8V) :: .row 5 1 rp j.2.picks.length cp (j.2.picks.map u8V) :: Fr0)) (fun j => 24 - j.1) (0, f) (⟨Nat.zero_le _, rfl⟩) ⟨rfl, rfl, rfl, rfl, rfl, trivial⟩ ⟨[2, 3, 4, 0, 1], by decide, rfl⟩ ?_
  rintro ⟨j, g⟩ ⟨hj, hwr⟩
  simp only at hj hwr ⊢
  obtain ⟨hg, hgp, hgl, _, _⟩ := VU hf (o := bk * 256 + sl * 24) hzs j (by omega)
  rw [hwr] at hg hgp hgl
  simp only at hg hgp hgl
  refine Zb <| Za <| gr rfl (Z2 rfl rfl) (Zx (fun h13 => ?_) (fun h13 => ?_))
  · refine gA <| Zb <| Zj rfl <| Zu <| Ze <| Zb <| ZC <| Zb <| Za <| gm rfl rfl <| gr rfl (Z8 hsl Tryz.underlying65 Ym rfl rfl (by omega) (by omega)) ?_
    refine gr rfl (Zh Tryz.underlying5 rfl rfl (Xb hsl (Xn (Wk (show j < zs.length by omega))))) ?_
    refine gas rfl rfl <| gas rfl rfl <| gA <| Zb <| Zb <| Za <| gm rfl rfl <| gr rfl (Yt rfl rfl) (Zx (fun h18 => ?_) (fun h18 => ?_))
    · have h18n : gB zs j = 255 := by omega
      refine gA <| Zj rfl <| Z1 <| Zr <| ZE <| Ze <| Za <| gr rfl (by exact ZQ (b := 1) rfl rfl (by omega)) ?_
      refine gm rfl rfl <| ZU <| Ze ?_
      exact ZZ ((j + 1, g)) ⟨⟨by simp only; omega, by simp only; rw [Jo, hwr]; unfold Jn; rw [if_neg (fun h => h rfl), if_pos h18n]⟩, by simp only; omega⟩ ⟨rfl, rfl, rfl, rfl, rfl, trivial⟩ ⟨[0, 1, 2, 3, 4], by decide, rfl⟩
    have h18n : ¬ gB zs j = 255 := by omega
    have hstep : Xm f (bk * 256 + sl * 24) zs (j + 1) = Yp g ((bk * 256 + sl * 24 + j : Nat) : Int) (gB zs j) := by rw [Jo, hwr]; unfold Jn; rw [if_neg (fun h => h rfl), if_neg h18n]
    refine gA <| Zk rfl <| Zu <| Ze <| Zb <| ZP [3, 4] true 15 rfl <| Zc 0 rfl rfl ⟨[3, 4], by decide, rfl⟩ (Zf (Zm rfl)) ?_
    refine Zc 1 rfl rfl ⟨[3, 4], by decide, rfl⟩ (Zf (ZI rfl)) ?_
    refine Zc 2 rfl rfl ⟨[3, 4], by decide, rfl⟩ (Zf (Zd rfl (Xp _))) ?_
    refine Zc 3 rfl rfl ⟨[3, 4], by decide, rfl⟩ (Zf (Zh Tryz.underlying32 rfl rfl (by exact Zo 1 rfl rfl))) ?_
    refine Zc 4 rfl rfl ⟨[3, 4], by decide, rfl⟩ (Zf (Zd rfl (Zbl _))) ?_
    refine Zc 5 rfl rfl ⟨[3, 4], by decide, rfl⟩ (Zf (Zh Tryz.underlying3 rfl rfl (by exact Zo 0 rfl rfl))) ?_
    refine Zc 6 rfl rfl ⟨[3, 4], by decide, rfl⟩ (Zf (by exact XE (b := 256) rfl rfl (by omega))) ?_
    refine Zc 7 rfl rfl ⟨[3, 4], by decide, rfl⟩ (Zf (Zd rfl (Zbm _))) ?_
    refine Zc 8 rfl rfl ⟨[3, 4], by decide, rfl⟩ (Zf (Zh Tryz.underlying3 rfl rfl (by exact Zo 0 rfl rfl))) ?_
    refine Zc 9 rfl rfl ⟨[3, 4], by decide, rfl⟩ (Zf (by exact XE (b := 24) rfl rfl (by omega))) ?_
    refine Zc 10 rfl rfl ⟨[3, 4], by decide, rfl⟩ (Zf (by exact ZQ rfl rfl (by omega))) ?_
    refine Zc 11 rfl rfl ⟨[3, 4], by decide, rfl⟩ (Zf (Zm rfl)) ?_
    refine Zc 12 rfl rfl ⟨[3, 4], by decide, rfl⟩ (Zf (by exact ZQ rfl rfl (by omega))) ?_
    refine Zc 13 rfl rfl ⟨[3, 4], by decide, rfl⟩ (Zf (Zm rfl)) ?_
    refine ZG 14 rfl (.inr ⟨[3, 4], by decide, rfl⟩) (Yf [0, 1, 2] [3, 4] rfl (vf := []) (vc := []) rfl rfl Tryz.call15 (by decide) rfl (fun w how hc => Zli g hg bf rb cb rp cp _ w hc ((bk * 256 + sl * 24 + j : Nat) : Int) (gB zs j) (Xr hzs j)) ?_)
    rintro _ _ ⟨rfl, rfl⟩
    refine Zc 15 rfl rfl ⟨[3, 4], by decide, rfl⟩ (Zf (ZV rfl)) ?_
    refine ZS (.inr ⟨[3, 4], by decide, rfl⟩) ?_
    refine Ze <| Zb <| Za <| gm rfl rfl <| gr rfl (ZX rfl rfl) (Zx (fun h35 => ?_) (fun h35 => ?_))
    · refine gA <| Zj rfl <| Zb <| Za <| gm rfl rfl <| gas rfl rfl <| gA <| Zp <| Zw <| Zg <| Zg <| Zw <| Zg <| Zz (.inl rfl) Tryz.results189 rfl [4, 0, 1, 2] (by decide) ?_
      have hw : ZW f (bk * 256 + sl * 24) zs = Yp g ((bk * 256 + sl * 24 + j : Nat) : Int) (gB zs j) := by
        have h := Zms (f := f) (o := bk * 256 + sl * 24) (bs := zs) (k := j + 1) (by rw [hstep]; exact h35) (zs.length - (j + 1))
        rw [show j + 1 + (zs.length - (j + 1)) = zs.length by omega] at h
        unfold ZW
        rw [h, hstep]
      rw [hw]
      exact ⟨rfl, rfl⟩
    refine gA <| Zk rfl <| Zu <| ZM <| Ze <| Za <| gr rfl (by exact ZQ (b := 1) rfl rfl (by omega)) ?_
    refine gm rfl rfl <| ZU <| Ze ?_
    exact ZZ ((j + 1, (Yp g ((bk * 256 + sl * 24 + j : Nat) : Int) (gB zs j)).1)) ⟨⟨by simp only; omega, by simp only; rw [hstep]; exact Prod.ext rfl (by simp only; omega)⟩, by simp only; omega⟩ ⟨rfl, rfl, rfl, rfl, rfl, trivial⟩ ⟨[0, 1, 2, 3, 4], by decide, rfl⟩
  refine gA <| Zb <| Zk rfl <| Z1 <| Zr <| Zr <| ZE <| Ze <| Zb <| Za <| gas rfl rfl <| gA <| Zp <| Zz (.inl rfl) Tryz.results189 rfl [4, 0, 1, 2] (by decide) ?_
  have hw : ZW f (bk * 256 + sl * 24) zs = (g, 0) := by unfold ZW; rw [← hwr, show j = zs.length by omega]
  rw [hw]
  exact ⟨rfl, rfl⟩
namespace Iv
section
variable {dm : List Deferred} {P : Program} {n : Nat} {e : Env} {w0 : World} {S : List Nat} {l : List HL} {dst : Option Tmp} {ty : TypeId} {pos : String} {aft : Array Edge} {gd : Option (Nat × Bool)} {x y : Operand} {t ty' : TypeId}
theorem Xz {a b : Nat} (hx : e.ev x = some (.int .u32 a)) (hy : e.ev y = some (.int .u32 b)) (h : a + b < 4294967296) : Rd P dm n e w0 S l ⟨dst, .binOp .add t x y ty', ty, pos, aft, gd⟩ (.int .u32 ((a + b : Nat) : Int)) := by
  have h1 := Zma (dm := dm) (P := P) (n := n) (w0 := w0) (S := S) (l := l) (dst := dst) (ty := ty) (pos := pos) (aft := aft) (gd := gd) (t := t) (ty' := ty') hx hy
  rwa [show ((a : Int) + (b : Int)) = ((a + b : Nat) : Int) by push_cast; rfl, WS h] at h1
end
theorem XN {key num : Nat} (hk : key < 65536) {vs : List Nat} (hvs : ∀ z ∈ vs, z < 256) (hv : vs.length ≤ 16) : ∀ z ∈ packP key num vs, z < 256 := by
  unfold packP
  have h3 := pk3_lt (Zh0 num (Zlm key vs.length hk) 4) hvs
  have hz := JL ((pk3 vs (pk2 num (pk1 key vs.length) 4)).take 23)
  rw [List.length_take, Zdk (by rw [Vv, Jl]) hv] at hz
  exact JK h3 (by omega)
end Iv
namespace Iv
structure En where
  key : Nat
  num : Nat
  val : List Nat
  bk : Nat
  sl : Nat
  deriving Inhabited, DecidableEq
structure He where
  en : En
  r : Option Nat
  c : Nat
  deriving Inhabited
abbrev HV (h : He) : Value := .agg #[natV h.en.key, .int .u32 (h.en.num : Int), .slice (rowA h.r) h.en.val.length h.c, natV h.en.bk, natV h.en.sl]
def He.row (h : He) : HL := .row 5 1 h.r h.en.val.length h.c (h.en.val.map u8V)
structure EnOk (x : En) : Prop where
  key : x.key ≤ 999
  num : x.num < 4294967296
  len : x.val.length ≤ 16
  val : ∀ z ∈ x.val, z < 256
  bk : x.bk < 64
  sl : x.sl < 10
abbrev plain (m : List (ME He)) : List En := m.map fun x => x.v.en
def Yv (k : Nat) : List En → Option En
  | [] => none
  | y :: l => if k = y.key then some y else Yv k l
def Jp (x : En) : List En → List En
  | [] => [x]
  | y :: l => if x.key = y.key then x :: l else y :: Jp x l
structure MSt (m : List (ME He)) (nb : Nat) (T : List HL) : Prop where
  ok : MOk m nb
  key : ∀ x ∈ m, x.key = (x.v.en.key : Int)
  row : ∀ x ∈ m, x.v.row ∈ T
  en : ∀ x ∈ m, EnOk x.v.en
theorem mst_nil (T : List HL) : MSt [] 0 T := ⟨MOk.nil, (fun _ h => by cases h), (fun _ h => by cases h), (fun _ h => by cases h)⟩
theorem Zh1 (k : Nat) : ∀ {m : List (ME He)}, (∀ x ∈ m, x.key = (x.v.en.key : Int)) → Yv k (plain m) = (XL (k : Int) m).map He.en
  | [], _ => rfl
  | y :: l, h => by
    have hy := h y List.mem_cons_self
    have ih := Zh1 k (m := l) fun x hx => h x (List.mem_cons_of_mem _ hx)
    simp only [plain, List.map_cons, Yv, XL, hy] at ih ⊢
    by_cases e : k = y.v.en.key
    · rw [if_pos e, if_pos (by rw [e])]; rfl
    · rw [if_neg e, if_neg (by omega)]; exact ih
theorem XP (x : He) (nb : Nat) : ∀ {m : List (ME He)}, (∀ y ∈ m, y.key = (y.v.en.key : Int)) → plain (XT (x.en.key : Int) x nb m) = Jp x.en (plain m)
  | [], _ => rfl
  | y :: l, h => by
    have hy := h y List.mem_cons_self
    have ih := XP x nb (m := l) fun z hz => h z (List.mem_cons_of_mem _ hz)
    simp only [plain, List.map_cons, Jp, XT, hy] at ih ⊢
    by_cases e : x.en.key = y.v.en.key
    · rw [if_pos e, if_pos (by rw [e])]; rfl
    · rw [if_neg e, if_neg (by omega), List.map_cons, ih]
theorem MSt.put {m : List (ME He)} {nb : Nat} {T : List HL} (h : MSt m nb T) (x : He) (hx : EnOk x.en) {T' : List HL} (hT : ∀ y ∈ T, y ∈ T') (hr : x.row ∈ T') : MSt (XT (x.en.key : Int) x nb m) (mnb (x.en.key : Int) m nb) T' := by
  refine ⟨h.ok.put _ _, fun y hy => ?_, fun y hy => ?_, fun y hy => ?_⟩ <;> rcases mput_mem hy with ⟨e1, e2⟩ | hy
  · rw [e1, e2]
  · exact h.key y hy
  · rw [e1]; exact hr
  · exact hT _ (h.row y hy)
  · rw [e1]; exact hx
  · exact h.en y hy
theorem MSt.mono {m : List (ME He)} {nb : Nat} {T T' : List HL} (h : MSt m nb T) (hT : ∀ y ∈ T, y ∈ T') : MSt m nb T' := ⟨h.ok, h.key, fun y hy => hT _ (h.row y hy), h.en⟩
theorem MSt.get {m : List (ME He)} {nb : Nat} {T : List HL} (h : MSt m nb T) {k : Nat} {x : He} (hg : XL (k : Int) m = some x) : EnOk x.en ∧ x.row ∈ T ∧ x.en.key = k ∧ Yv k (plain m) = some x.en := by
  obtain ⟨b, hb⟩ := Ziu hg
  have := h.key _ hb
  simp only at this
  exact ⟨h.en _ hb, h.row _ hb, by omega, by rw [Zh1 k h.key, hg]; rfl⟩
theorem MSt.none {m : List (ME He)} {nb : Nat} {T : List HL} (h : MSt m nb T) {k : Nat} (hg : XL (k : Int) m = none) : Yv k (plain m) = none := by
  rw [Zh1 k h.key, hg]; rfl
def slotB (b : List Nat) (bk sl : Nat) : List Nat := (b.drop (bk * 256 + sl * 24)).take 24
def enB (b : List Nat) (bk sl : Nat) : En := ⟨keyP (slotB b bk sl), numTo (slotB b bk sl) 4, YR (slotB b bk sl), bk, sl⟩
def Y9 (x : En) (P : List En) : Bool := match Yv x.key P with | some o => decide (o.num < x.num) | none => true
def WM (b : List Nat) (but : Int) (bk : Nat) (s : Nat × List En) (sl : Nat) : Nat × List En :=
  if X1 (slotB b bk sl) = true ∨ (bk : Int) = but then s else (max s.1 (enB b bk sl).num, if Y9 (enB b bk sl) s.2 then Jp (enB b bk sl) s.2 else s.2)
def XY (b : List Nat) (but : Int) (bk : Nat) (s : Nat × List En) (k : Nat) : Nat × List En := (List.range k).foldl (WM b but bk) s
def Zdb (b : List Nat) (but : Int) (num : Nat) (k : Nat) : Nat × List En := (List.range k).foldl (fun s bk => XY b but bk s 10) (num, [])
def WC (b : List Nat) (but : Int) (num : Nat) : Nat × List En := Zdb b but num (b.length / 256)
theorem YS (b : List Nat) (but : Int) (bk : Nat) (s : Nat × List En) (k : Nat) : XY b but bk s (k + 1) = WM b but bk (XY b but bk s k) k := by unfold XY; rw [List.range_succ, List.foldl_append]; rfl
theorem VV (b : List Nat) (but : Int) (num k : Nat) : Zdb b but num (k + 1) = XY b but k (Zdb b but num k) 10 := by unfold Zdb; rw [List.range_succ, List.foldl_append, List.foldl_cons, List.foldl_nil]
theorem WD {b : List Nat} {bk sl : Nat} (h : bk * 256 + sl * 24 + 24 ≤ b.length) : (slotB b bk sl).length = 24 := by unfold slotB; simp; omega
theorem Wz {b : List Nat} (hb : ∀ z ∈ b, z < 256) (bk sl : Nat) : ∀ z ∈ slotB b bk sl, z < 256 := fun z hz => hb z (List.mem_of_mem_drop (List.mem_of_mem_take hz))
theorem Zln {b : List Nat} (hb : ∀ z ∈ b, z < 256) {bk sl : Nat} (h : bk * 256 + sl * 24 + 24 ≤ b.length) (hbk : bk < 64) (hsl : sl < 10) (hg : X1 (slotB b bk sl) = false) : EnOk (enB b bk sl) := by
  have hl := Wz hb bk sl
  unfold X1 at hg
  simp only [Bool.or_eq_false_iff, decide_eq_false_iff_not] at hg
  have hk : keyP (slotB b bk sl) ≤ 999 := by omega
  have hn : numTo (slotB b bk sl) 4 < 4294967296 := Zhy hl (Nat.le_refl 4)
  refine ⟨hk, hn, ?_, fun z hz => hl z (List.mem_of_mem_drop (List.mem_of_mem_take hz)), hbk, hsl⟩
  simp only [enB, YR, List.length_take]
  omega
theorem Vw {b : List Nat} {but : Int} {bk sl : Nat} {s : Nat × List En} (h : X1 (slotB b bk sl) = true ∨ (bk : Int) = but) : WM b but bk s sl = s := by unfold WM; rw [if_pos h]
theorem Wm {b : List Nat} {but : Int} {bk sl : Nat} {s : Nat × List En} (h : X1 (slotB b bk sl) = false) (h2 : (bk : Int) ≠ but) : WM b but bk s sl = (max s.1 (enB b bk sl).num, if Y9 (enB b bk sl) s.2 then Jp (enB b bk sl) s.2 else s.2) := by
  unfold WM; rw [if_neg (by rw [h]; simp [h2])]
def Xf (b : List Nat) (P : List En) (bk sl : Nat) : Bool := X1 (slotB b bk sl) || !Y9 (enB b bk sl) P
def JN (b : List Nat) (P : List En) (bk : Nat) : Bool := (List.range 10).all (Xf b P bk)
end Iv
theorem JO (zs : List Nat) (hz : ∀ z ∈ zs, z < 256) (hlen : zs.length = 24) (a : Option Addr) (ca : Nat) (hca : 24 ≤ ca) (w0 : World) (hsl : OldSl w0 [] a 24 1 (zs.map u8V)) (hb : X1 zs = false) : Sp Tryz.prog 107 [.slice a 24 ca] w0 [] (fun v L => ∃ (r : Option Nat) (c : Nat), v = .tuple #[.agg #[natV (keyP zs), .int .u32 (numTo zs 4 : Nat), .slice (rowA r) (YR zs).length c], .bool true] ∧ L = [.row 5 1 r (YR zs).length c ((YR zs).map u8V)]) := by
  refine (Zgj zs hz hlen a ca hca w0 hsl).mono ?_
  rintro v L (⟨h, _⟩ | ⟨_, h⟩)
  · rw [hb] at h; cases h
  · exact h
section
variable {dm : List Deferred} {P : Program} {n : Nat} {e : Env} {w0 : World} {S : List Nat} {l : List HL} {dst : Option Nat} {ty : TypeId} {pos : String} {aft : Array Edge} {gd : Option (Nat × Bool)}
theorem Zmt {x y : Operand} {k : IntKind} {p q : Nat} {ats : Array TypeId} (hx : e.ev x = some (.int k (p : Int))) (hy : e.ev y = some (.int k (q : Int))) :
    Rd P dm n e w0 S l ⟨dst, .call { callee := .builtin .max, args := #[x, y], argTypes := ats }, ty, pos, aft, gd⟩ (.int k ((max p q : Nat) : Int)) := by
  have h := rd_max2 (dm := dm) (P := P) (n := n) (e := e) (w0 := w0) (S := S) (l := l) (dst := dst) (ty := ty) (pos := pos) (aft := aft) (gd := gd) (ats := ats) hx hy
  rw [show ((max p q : Nat) : Int) = max (p : Int) (q : Int) by omega]
  exact h
end
end Go.Proofs.YthcbcdjkfefnlaaGreatDoor
